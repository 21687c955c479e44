/-
  Plain proofs: the plain program of the law ends with true.
  Conditions: None beyond the given statement.
-/
import Derived.Test.YtniaobcahkjfjaaP
namespace Go.Proofs.Ytniaobcahkjfjaa
open Go
/-! ### plain programs: loops over a list -/
namespace M
variable {α β σ ρ : Type}
/-- rounds over the elements of a list, each with its place; a round may leave -/
def run (g : Nat → α → σ → σ ⊕ ρ) (fin : σ → ρ) : Nat → List α → σ → ρ
  | _, [], s => fin s
  | i, x :: xs, s => match g i x s with
    | .inl s' => run g fin (i + 1) xs s'
    | .inr r => r
theorem Conv_forN {l : List α} {f : Int → σ → M (σ ⊕ ρ)} (g : Nat → α → σ → σ ⊕ ρ) (fin : σ → ρ) (I : Nat → σ → Prop) (hi : Int) :
    ∀ (xs : List α) (i : Nat) (s : σ), hi = (i + xs.length : Nat) → I i s → (∀ (j : Nat) x s, xs[j]? = some x → I (i + j) s → Conv (f (i + j : Nat) s) (g (i + j) x s) ∧ ∀ s', g (i + j) x s = .inl s' → I (i + j + 1) s') →
      ∃ N, ∀ n, N ≤ n → forN hi fin f n xs.length i s = some (run g fin i xs s)
  | [], i, s, hh, _, _ => ⟨0, fun n _ => by
      have : ¬ (i : Int) < hi := by rw [hh]; simp
      simp [forN, run, this]⟩
  | x :: xs, i, s, hh, h0, H => by
    have hlt : (i : Int) < hi := by rw [hh]; simp; omega
    obtain ⟨⟨N, hN⟩, hI⟩ := H 0 x s rfl h0
    simp only [Nat.add_zero] at hN hI
    cases hg : g i x s with
    | inl s' =>
      have hi' := hI s' hg
      obtain ⟨N', hN'⟩ := Conv_forN (l := l) g fin I hi xs (i + 1) s' (by rw [hh, List.length_cons]; congr 1; omega) hi' (fun j y s hy hIs => by
        have := H (j + 1) y s (by simpa using hy) (by rw [← Nat.add_assoc, Nat.add_right_comm]; exact hIs)
        rw [show i + (j + 1) = i + 1 + j by omega] at this
        exact this)
      refine ⟨max N N', fun n hn => ?_⟩
      have h1 := hN n (by omega)
      rw [hg] at h1
      simp only [List.length_cons, forN, hlt, decide_true, cond_true, h1, run, hg]
      have := hN' n (by omega)
      simpa using this
    | inr r =>
      refine ⟨N, fun n hn => ?_⟩
      have h1 := hN n hn
      rw [hg] at h1
      simp only [List.length_cons, forN, hlt, decide_true, cond_true, h1, run, hg]
/-- a loop over a list, with an invariant -/
theorem Conv_forI {l : List α} {f : Int → σ → M (σ ⊕ ρ)} {fin : σ → ρ} {s : σ} (g : Nat → α → σ → σ ⊕ ρ) (I : Nat → σ → Prop) (hl : l.length ≤ 9223372036854775807) (h0 : I 0 s)
    (H : ∀ (i : Nat) x s, l[i]? = some x → I i s → Conv (f i s) (g i x s) ∧ ∀ s', g i x s = .inl s' → I (i + 1) s') : Conv (forI 0 (l.length : Int) fin f s) (run g fin 0 l s) := by
  obtain ⟨N, hN⟩ := Conv_forN (l := l) (f := f) g fin I (l.length : Int) l 0 s (by simp) h0 (fun j x s hx hI => by simpa using H j x s hx (by simpa using hI))
  refine ⟨N, fun n hn => ?_⟩
  have h1 : (l.length : Int) ≤ 9223372036854775807 := by omega
  simp only [forI, h1, decide_true, Bool.and_true, show (-9223372036854775808 : Int) ≤ 0 by decide, cond_true]
  have := hN n hn
  simpa using this
/-- .. without one -/
theorem Conv_forL {l : List α} {f : Int → σ → M (σ ⊕ ρ)} {fin : σ → ρ} {s : σ} (g : Nat → α → σ → σ ⊕ ρ) (hl : l.length ≤ 9223372036854775807)
    (H : ∀ (i : Nat) x s, l[i]? = some x → Conv (f i s) (g i x s)) : Conv (forI 0 (l.length : Int) fin f s) (run g fin 0 l s) :=
  Conv_forI g (fun _ _ => True) hl trivial fun i x s hx _ => ⟨H i x s hx, fun _ _ => trivial⟩
theorem Conv.of {m : M α} {r r' : α} (h : Conv m r) (e : r = r') : Conv m r' := e ▸ h
theorem Conv_ite {b : Bool} {x y : M α} {r : α} (h1 : b = true → Conv x r) (h2 : b = false → Conv y r) : Conv (ite b x y) r := by
  cases b
  · exact h2 rfl
  · exact h1 rfl
theorem Conv_ite2 {b : Bool} {x y : M α} {r s : α} (h1 : b = true → Conv x r) (h2 : b = false → Conv y s) : Conv (ite b x y) (bif b then r else s) := by
  cases b
  · exact h2 rfl
  · exact h1 rfl
theorem Conv_guard {b : Bool} (h : b = true) : Conv (guard b) () := ⟨0, fun _ _ => by simp [guard, h]⟩
theorem Conv_upd {l : List α} {i : Nat} {x : α} (h : i < l.length) : Conv (upd l i x) (l.set i x) := ⟨0, fun _ _ => by simp [upd, h]⟩
theorem Conv_get {l : List α} {i : Int} {x : α} (h0 : 0 ≤ i) (h : l[i.toNat]? = some x) : Conv (idx l i) x := ⟨0, fun _ _ => by simp [idx, h0, h]⟩
/-- a value told in both ways of a test, then the rest -/
theorem Conv_bite {b : Bool} {x y : M α} {f : α → M β} {u v : α} {r : β} (h1 : b = true → Conv x u) (h2 : b = false → Conv y v) (g : Conv (f (bif b then u else v)) r) : Conv (bind (ite b x y) f) r :=
  Conv_bind (Conv_ite2 h1 h2) g

/-! searches: a loop that leaves at the first element of a kind -/
theorem run_all (p : α → Bool) (u : Unit ⊕ ρ) : ∀ (i : Nat) (l : List α), run (ρ := Unit ⊕ ρ) (fun _ x _ => bif p x then .inl () else .inr u) (fun s => .inl s) i l () = bif l.all p then .inl () else u
  | _, [] => rfl
  | i, x :: xs => by
    simp only [run, List.all_cons]
    cases p x
    · rfl
    · simpa using run_all p u (i + 1) xs
/-- 'for .. if not p x, return v' -/
theorem Conv_all {l : List α} {f : Int → Unit → M (Unit ⊕ (Unit ⊕ ρ))} (p : α → Bool) (v : ρ) (hl : l.length ≤ 9223372036854775807) (H : ∀ (i : Nat) x, l[i]? = some x → Conv (f i ()) (bif p x then .inl () else .inr (.inr v))) :
    Conv (forI 0 (l.length : Int) (fun s => .inl s) f ()) (bif l.all p then .inl () else .inr v) :=
  (Conv_forL (fun _ x _ => bif p x then .inl () else .inr (.inr v)) hl fun i x _ hx => H i x hx).of (run_all p (.inr v) 0 l)
/-- the same, where the element's place matters to the test -/
theorem run_allI (p : Nat → α → Bool) (u : Unit ⊕ ρ) : ∀ (i : Nat) (l : List α), run (ρ := Unit ⊕ ρ) (fun j x _ => bif p j x then .inl () else .inr u) (fun s => .inl s) i l () = bif (l.zipIdx i).all (fun q => p q.2 q.1) then .inl () else u
  | _, [] => rfl
  | i, x :: xs => by
    simp only [run, List.zipIdx_cons, List.all_cons]
    cases p i x
    · rfl
    · simpa using run_allI p u (i + 1) xs
theorem Conv_allI {l : List α} {f : Int → Unit → M (Unit ⊕ (Unit ⊕ ρ))} (p : Nat → α → Bool) (v : ρ) (hl : l.length ≤ 9223372036854775807) (H : ∀ (i : Nat) x, l[i]? = some x → Conv (f i ()) (bif p i x then .inl () else .inr (.inr v))) :
    Conv (forI 0 (l.length : Int) (fun s => .inl s) f ()) (bif (l.zipIdx 0).all (fun q => p q.2 q.1) then .inl () else .inr v) :=
  (Conv_forL (fun j x _ => bif p j x then .inl () else .inr (.inr v)) hl fun i x _ hx => H i x hx).of (run_allI p (.inr v) 0 l)
/-- 'for i .. if p x, return i' -/
theorem run_find (p : α → Bool) : ∀ (i : Nat) (l : List α), run (σ := Unit) (ρ := Unit ⊕ Int) (fun j x _ => bif p x then .inr (.inr (j : Int)) else .inl ()) (fun s => .inl s) i l () = match l.findIdx? p with
    | some j => .inr ((i + j : Nat) : Int)
    | none => .inl ()
  | _, [] => rfl
  | i, x :: xs => by
    simp only [run, List.findIdx?_cons]
    cases hp : p x
    · simp only [cond_false, run_find p (i + 1) xs, Bool.false_eq_true, if_false]
      cases xs.findIdx? p with
      | none => rfl
      | some j => simp only [Option.map_some]; congr 2; omega
    · simp
theorem Conv_find {l : List α} {f : Int → Unit → M (Unit ⊕ (Unit ⊕ Int))} (p : α → Bool) (hl : l.length ≤ 9223372036854775807) (H : ∀ (i : Nat) x, l[i]? = some x → Conv (f i ()) (bif p x then .inr (.inr (i : Int)) else .inl ())) :
    Conv (forI 0 (l.length : Int) (fun s => .inl s) f ()) (match l.findIdx? p with | some j => .inr (j : Int) | none => .inl ()) :=
  (Conv_forL (fun j x _ => bif p x then .inr (.inr (j : Int)) else .inl ()) hl fun i x _ hx => H i x hx).of (by rw [run_find]; simp)
/-- sums: each round turns what has been gathered -/
theorem run_fold (g : σ → α → σ) : ∀ (i : Nat) (l : List α) (s : σ), run (fun _ x s => .inl (g s x)) (fun s => s) i l s = l.foldl g s
  | _, [], _ => rfl
  | i, x :: xs, s => by simpa [run] using run_fold g (i + 1) xs (g s x)
theorem Conv_fold {l : List α} {f : Int → σ → M (σ ⊕ σ)} {s : σ} (g : σ → α → σ) (hl : l.length ≤ 9223372036854775807) (H : ∀ (i : Nat) x s, l[i]? = some x → Conv (f i s) (.inl (g s x))) :
    Conv (forI 0 (l.length : Int) (fun s => s) f s) (l.foldl g s) :=
  (Conv_forL (fun _ x s => .inl (g s x)) hl fun i x s hx => H i x s hx).of (run_fold g 0 l s)
theorem get_set_append {l r : List α} {x y : α} : (l ++ y :: r).set l.length x = l ++ x :: r := by simp
/-- a loop that fills a list of the same length, element by element -/
theorem run_fill (g : Nat → α → β) (z : β) : ∀ (i : Nat) (l : List α) (d : List β), d.length = i →
    run (fun j x s => .inl (s.set j (g j x))) (fun s => s) i l (d ++ List.replicate l.length z) = d ++ (l.zipIdx i).map (fun q => g q.2 q.1)
  | _, [], d, _ => by simp [run]
  | i, x :: xs, d, hd => by
    subst hd
    simp only [run, List.length_cons, List.replicate_succ, get_set_append]
    have := run_fill g z (d.length + 1) xs (d ++ [g d.length x]) (by simp)
    simp only [List.append_assoc, List.singleton_append] at this
    rw [this]
    simp
theorem Conv_fill {l : List α} {f : Int → List β → M (List β ⊕ List β)} (g : Nat → α → β) (z : β) (hl : l.length ≤ 9223372036854775807)
    (H : ∀ (i : Nat) x s, l[i]? = some x → s.length = l.length → Conv (f i s) (.inl (s.set i (g i x)))) :
    Conv (forI 0 (l.length : Int) (fun s => s) f (List.replicate l.length z)) ((l.zipIdx 0).map (fun q => g q.2 q.1)) := by
  refine (Conv_forI (fun j x s => .inl (s.set j (g j x))) (fun _ s => s.length = l.length) hl (by simp) fun i x s hx hI => ⟨H i x s hx hI, fun s' e => ?_⟩).of ?_
  · cases e; simpa using hI
  · simpa using run_fill g z 0 l [] rfl
theorem zipIdx_map_fst {l : List α} {g : α → β} {i : Nat} : ((l.zipIdx i).map fun q => g q.1) = l.map g := by
  have h : List.map (g ∘ Prod.fst) (l.zipIdx i) = List.map g l := by rw [← List.map_map, List.zipIdx_map_fst]
  exact h
theorem findIdx_any {l : List α} {p : α → Bool} : (decide ((0:Int) ≤ match l.findIdx? p with | some j => (j : Int) | none => -1)) = l.any p := by
  cases h : l.findIdx? p with
  | none => rw [List.findIdx?_eq_none_iff] at h; simp; exact fun x hx => by simpa using h x hx
  | some j =>
    obtain ⟨hj, hp, _⟩ := List.findIdx?_eq_some_iff_getElem.1 h
    simp
    exact ⟨_, List.getElem_mem hj, hp⟩
end M
def finB (x : Int) : Bool := decide (-1000000 ≤ x) && decide (x ≤ 1000000)
def valB (x : Int) : Bool := x == (-1000000000000000) || finB x
theorem toInt64S_ok {a : List Int} (h : a.length ≤ 1099511627776) : M.Conv (laws_toInt64S a) a := by
  unfold laws_toInt64S
  refine M.Conv_bind (M.Conv_make (by omega) (by omega)) ?_
  refine M.Conv_bind (x := a) (((M.Conv_fill (l := a) (f := _) (fun _ x => x) 0 (by omega) fun i x s hx hs => ?_)).of ?_) (M.Conv_ret _)
  · have hi := (List.getElem?_eq_some_iff.1 hx).1
    refine M.Conv_bind (M.Conv_get (by omega) (by simpa using hx)) ?_
    refine M.Conv_bind (M.Conv_get (x := s[i]) (by omega) (by simp [show i < s.length by omega])) ?_
    exact M.Conv_bind (M.Conv_upd (by omega)) (M.Conv_ret _)
  · exact M.zipIdx_map_fst.trans (List.map_id' _)
theorem eqInt64S_ok {a b : List Int} (ha : a.length ≤ 9223372036854775807) : M.Conv (laws_eqInt64S a b) (decide (a = b)) := by
  unfold laws_eqInt64S
  refine M.Conv_ite (fun h => ?_) (fun h => ?_)
  · have : a ≠ b := by rintro rfl; simp at h
    rw [decide_eq_false this]; exact M.Conv_ret _
  · have hl : a.length = b.length := Int.ofNat.inj (by simpa using h)
    refine M.Conv_bind (M.Conv_allI (fun i x => b[i]? == some x) false ha fun i x hx => ?_) ?_
    · have hi := (List.getElem?_eq_some_iff.1 hx).1
      refine M.Conv_bind (M.Conv_get (by omega) (by simpa using hx)) ?_
      refine M.Conv_bind (M.Conv_get (x := b[i]) (by omega) (by simp [show i < b.length by omega])) ?_
      have hb : (b[i]? == some x) = !(x != b[i]) := by rw [List.getElem?_eq_getElem (by omega), bne, Bool.not_not, Option.some_beq_some, BEq.comm]
      rw [hb]
      cases (x != b[i]) <;> exact M.Conv_ret _
    · have key : ((a.zipIdx 0).all fun q => b[q.2]? == some q.1) = decide (a = b) := by
        by_cases e : a = b
        · subst e
          rw [decide_eq_true rfl, List.all_eq_true]
          rintro ⟨x, i⟩ hq
          have := List.mk_mem_zipIdx_iff_getElem?.1 hq
          simp [this]
        · rw [decide_eq_false e, Bool.eq_false_iff]
          intro h
          apply e
          rw [List.all_eq_true] at h
          refine List.ext_getElem hl fun i h1 h2 => ?_
          have := h (a[i], i) (List.mk_mem_zipIdx_iff_getElem?.2 (List.getElem?_eq_getElem h1))
          simp [h2] at this
          exact this.symm
      rw [key]
      cases decide (a = b) <;> exact M.Conv_ret _
theorem spec_l01In_ok (x lo hi : Int) : M.Conv (spec_l01In x lo hi) (decide (lo ≤ x) && decide (x ≤ hi)) := M.Conv_ret _
theorem spec_l01Finite_ok (x : Int) : M.Conv (spec_l01Finite x) (finB x) := M.Conv_bind (spec_l01In_ok _ _ _) (M.Conv_ret _)
theorem spec_IsValue_ok (x : Int) : M.Conv (spec_IsValue x) (valB x) := by
  unfold spec_IsValue
  refine M.Conv_bind (M.Conv_ite (r := valB x) (fun h => ?_) (fun h => ?_)) (M.Conv_ret _)
  · simp only [valB, h, Bool.true_or]; exact M.Conv_ret _
  · simp only [valB, h, Bool.false_or]; exact M.Conv_bind (spec_l01Finite_ok x) (M.Conv_ret _)
theorem spec_l01All_ok {l : List Int} (f : Bool) (hl : l.length ≤ 9223372036854775807) : M.Conv (spec_l01All l f) (l.all fun x => valB x && !(f && x == (-1000000000000000))) := by
  unfold spec_l01All
  refine M.Conv_bind (M.Conv_all (fun x => valB x && !(f && x == (-1000000000000000))) false hl fun i x hx => ?_) ?_
  · refine M.Conv_bind (M.Conv_get (by omega) (by simpa using hx)) (M.Conv_bind (spec_IsValue_ok x) ?_)
    refine M.Conv_bind (x := !(valB x && !(f && x == (-1000000000000000)))) (M.Conv_ite (fun h => ?_) (fun h => ?_)) ?_
    · simp at h; simp [h]; exact M.Conv_ret _
    · simp at h
      refine M.Conv_bind (x := (f && x == (-1000000000000000))) (M.Conv_ite (fun h => ?_) (fun h => ?_)) (by simp [h]; exact M.Conv_ret _)
      · simp [h]; exact M.Conv_bind (M.Conv_get (by omega) (by simpa using hx)) (M.Conv_ret _)
      · simp [h]; exact M.Conv_ret _
    · cases (valB x && !(f && x == (-1000000000000000))) <;> exact M.Conv_ret _
  · cases (l.all fun x => valB x && !(f && x == (-1000000000000000))) <;> exact M.Conv_ret _
theorem impl_within_ok (x lo hi : Int) : M.Conv (impl_within x lo hi) (decide (lo ≤ x) && decide (x ≤ hi)) := M.Conv_ret _
theorem impl_isFinite_ok (x : Int) : M.Conv (impl_isFinite x) (finB x) := M.Conv_bind (impl_within_ok _ _ _) (M.Conv_ret _)
theorem impl_IsValue_ok (x : Int) : M.Conv (impl_IsValue x) (valB x) := by
  unfold impl_IsValue
  refine M.Conv_bind (M.Conv_ite (r := valB x) (fun h => ?_) (fun h => ?_)) (M.Conv_ret _)
  · simp only [valB, h, Bool.true_or]; exact M.Conv_ret _
  · simp only [valB, h, Bool.false_or]; exact M.Conv_bind (impl_isFinite_ok x) (M.Conv_ret _)
/-- 'slices.ContainsFunc', behind 'slices.IndexFunc' -/
theorem contains_ok {α : Type} {l : List α} {f : Int → Unit → M (Unit ⊕ (Unit ⊕ Int))} (p : α → Bool) (hl : l.length ≤ 9223372036854775807) (H : ∀ (i : Nat) x, l[i]? = some x → M.Conv (f i ()) (bif p x then .inr (.inr (i : Int)) else .inl ())) :
    M.Conv (M.bind (M.bind (M.forI 0 (l.length : Int) (fun s => .inl s) f ()) (fun x1 => M.cont x1 (fun _ => M.ret (-1)) (fun r => M.ret r))) (fun x1 => M.ret (decide (0 ≤ x1)))) (l.any p) := by
  rw [← M.findIdx_any]
  refine M.Conv_bind (M.Conv_bind (M.Conv_find p hl H) ?_) (M.Conv_ret _)
  cases l.findIdx? p <;> exact M.Conv_ret _
theorem any_not {α : Type} {l : List α} {p : α → Bool} : (!l.any fun x => !p x) = l.all p := by
  induction l with
  | nil => rfl
  | cons x xs ih => simp only [List.any_cons, List.all_cons, Bool.not_or, Bool.not_not, ih]
theorem impl_areValues_ok {l : List Int} (hl : l.length ≤ 9223372036854775807) : M.Conv (impl_areValues l) (l.all valB) := by
  unfold impl_areValues slices_ContainsFunc_int_F_impl_areValues_1 slices_IndexFunc_int_F_impl_areValues_1
  refine M.Conv_bind (contains_ok (fun x => !valB x) hl fun i x hx => ?_) ((M.Conv_ret _).of any_not)
  refine M.Conv_bind (M.Conv_get (by omega) (by simpa using hx)) ?_
  refine M.Conv_bind (x := !valB x) (M.Conv_bind (impl_IsValue_ok x) (M.Conv_ret _)) ?_
  cases valB x <;> exact M.Conv_ret _
/-- the greatest of a list; Bottom if there is none -/
def maxL (l : List Int) : Int := l.foldl mx (-1000000000000000)
theorem impl_sumOf_ok {l : List Int} (hl : l.length ≤ 9223372036854775807) : M.Conv (impl_sumOf l) (maxL l) := by
  unfold impl_sumOf
  refine M.Conv_bind (M.Conv_fold mx hl fun i x s hx => ?_) (M.Conv_ret _)
  exact M.Conv_bind (M.Conv_get (by omega) (by simpa using hx)) (M.Conv_ret _)
theorem mx_eq (a b : Int) : mx a b = max a b := by unfold mx; split <;> omega
theorem foldl_mx_ge (l : List Int) (s : Int) : s ≤ l.foldl mx s := by
  induction l generalizing s with
  | nil => exact Int.le_refl _
  | cons x xs ih => exact Int.le_trans (by rw [mx_eq]; omega) (ih (mx s x))
theorem foldl_mx_mem {l : List Int} {s x : Int} (h : x ∈ l) : x ≤ l.foldl mx s := by
  induction l generalizing s with
  | nil => cases h
  | cons y ys ih =>
    rcases List.mem_cons.1 h with rfl | h
    · exact Int.le_trans (by rw [mx_eq]; omega) (foldl_mx_ge ys (mx s x))
    · exact ih h
theorem foldl_mx_in (l : List Int) (s : Int) : l.foldl mx s = s ∨ l.foldl mx s ∈ l := by
  induction l generalizing s with
  | nil => exact .inl rfl
  | cons y ys ih =>
    rcases ih (mx s y) with h | h
    · rw [List.foldl_cons, h, mx_eq]
      by_cases e : s ≤ y
      · right; rw [show max s y = y by omega]; exact List.mem_cons_self
      · left; omega
    · exact .inr (List.mem_cons_of_mem _ h)
theorem valB_ge {x : Int} (h : valB x = true) : -1000000000000000 ≤ x := by
  simp [valB, finB] at h; omega
theorem maxL_ne {l : List Int} (h : l.all valB = true) : (maxL l != (-1000000000000000)) = l.any (· != (-1000000000000000)) := by
  rw [List.all_eq_true] at h
  rw [Bool.eq_iff_iff, List.any_eq_true]
  constructor
  · intro hne
    rcases foldl_mx_in l (-1000000000000000) with e | e
    · simp [maxL, e] at hne
    · exact ⟨_, e, hne⟩
  · rintro ⟨x, hx, hne⟩
    have h1 := foldl_mx_mem (s := -1000000000000000) hx
    have h2 := valB_ge (h x hx)
    have hne : x ≠ -1000000000000000 := by simpa using hne
    have : maxL l ≠ -1000000000000000 := by unfold maxL; omega
    simpa using this
/-- a polynomial: up to twelve values, not all of them Bottom -/
def polyB (c : List Int) : Bool := decide (c.length ≤ 12) && c.all valB && c.any (· != (-1000000000000000))
theorem spec_IsPolynomial_ok {c : List Int} (hl : c.length ≤ 9223372036854775807) : M.Conv (spec_IsPolynomial c) (polyB c) := by
  unfold spec_IsPolynomial polyB
  refine M.Conv_bind (x := !(decide (c.length ≤ 12) && c.all valB)) (M.Conv_ite (fun h => ?_) (fun h => ?_)) ?_
  · have h := of_decide_eq_true h
    rw [decide_eq_false (by omega)]; exact M.Conv_ret _
  · have h := of_decide_eq_false h
    rw [decide_eq_true (by omega)]
    refine M.Conv_bind (spec_l01All_ok false hl) ((M.Conv_ret _).of ?_)
    simp
  · cases (decide (c.length ≤ 12) && c.all valB)
    · exact M.Conv_ret _
    · refine M.Conv_bind (M.Conv_all (fun x => x == (-1000000000000000)) true hl fun i x hx => ?_) ?_
      · refine M.Conv_bind (M.Conv_get (by omega) (by simpa using hx)) ?_
        simp only [bne]
        cases (x == (-1000000000000000)) <;> exact M.Conv_ret _
      · have : (c.all fun x => x == (-1000000000000000)) = !c.any (· != (-1000000000000000)) := by rw [← any_not]; rfl
        rw [this]
        cases c.any (· != (-1000000000000000)) <;> exact M.Conv_ret _
theorem impl_IsPolynomial_ok {c : List Int} (hl : c.length ≤ 9223372036854775807) : M.Conv (impl_IsPolynomial c) (polyB c) := by
  unfold impl_IsPolynomial polyB
  refine M.Conv_bind (impl_within_ok _ _ _) ?_
  by_cases h0 : c = []
  · subst h0; exact M.Conv_bind (x := false) (M.Conv_ret _) (M.Conv_bind (x := false) (M.Conv_ret _) (M.Conv_ret _))
  have hp : 0 < c.length := List.length_pos_iff.2 h0
  refine M.Conv_bind (x := decide (c.length ≤ 12) && c.all valB) (M.Conv_ite (fun h => ?_) (fun h => ?_)) ?_
  · simp at h
    rw [decide_eq_true (by omega)]; exact M.Conv_bind (impl_areValues_ok hl) ((M.Conv_ret _).of (by simp))
  · simp at h
    rw [decide_eq_false (by omega)]; exact M.Conv_ret _
  · refine M.Conv_bind (x := (decide (c.length ≤ 12) && c.all valB) && c.any (· != (-1000000000000000))) (M.Conv_ite (fun h => ?_) (fun h => ?_)) (M.Conv_ret _)
    · have h2 := (Bool.and_eq_true _ _ ▸ h).2
      rw [h]
      exact M.Conv_bind (impl_sumOf_ok hl) ((M.Conv_ret _).of (by rw [maxL_ne h2]; simp))
    · rw [h]; exact M.Conv_ret _
def smI (l : List Int) : Prop := l.length ≤ 1099511627776
theorem toI_ok {a : List Int} (h : smI a) : M.Conv (laws_toInt64S a) a := toInt64S_ok h
theorem eqI_refl {a : List Int} (h : smI a) : M.Conv (laws_eqInt64S a a) true := (eqInt64S_ok (by unfold smI at h; omega)).of (by simp)
/-- marks: element i becomes e (k + w * i) -/
theorem Conv_mark {α : Type} {l : List α} {f : Int → List α × Int → M ((List α × Int) ⊕ (List α × Int))} (w : Int) (e : Int → α) (k : Int) (hl : l.length ≤ 9223372036854775807)
    (H : ∀ (i : Nat) (s : List α), i < l.length → s.length = l.length → M.Conv (f i (s, k + w * i)) (.inl (s.set i (e (k + w * i)), k + w * (i + 1)))) :
    M.Conv (M.forI 0 (l.length : Int) (fun s => s) f (l, k)) ((List.range l.length).map (fun (i : Nat) => e (k + w * i)), k + w * l.length) := by
  refine (M.Conv_forI (l := l) (fun i _ s => .inl (s.1.set i (e (k + w * i)), k + w * (i + 1))) (fun i s => s.1.length = l.length ∧ s.2 = k + w * i) hl ⟨rfl, by simp⟩ fun i x s hx hI => ?_).of ?_
  · obtain ⟨s, q⟩ := s
    obtain ⟨h1, h2⟩ := hI
    simp only at h1 h2
    subst h2
    refine ⟨H i s (List.getElem?_eq_some_iff.1 hx).1 h1, fun s' es => ?_⟩
    cases es
    exact ⟨by simpa using h1, by simp⟩
  · have key : ∀ (xs : List α) (i : Nat) (d : List α), d.length = i → M.run (ρ := List α × Int) (fun i _ s => .inl (s.1.set i (e (k + w * i)), k + w * ((i : Int) + 1))) (fun s => s) i xs (d ++ xs, k + w * i) = (d ++ (List.range xs.length).map (fun (j : Nat) => e (k + w * (i + j : Nat))), k + w * (i + xs.length : Nat)) := by
      intro xs
      induction xs with
      | nil => intro i d hd; simp [M.run]
      | cons x xs ih =>
        intro i d hd
        subst hd
        simp only [M.run]
        have := ih (d.length + 1) (d ++ [e (k + w * d.length)]) (by simp)
        rw [show (d ++ x :: xs).set d.length (e (k + w * d.length)) = d ++ [e (k + w * d.length)] ++ xs by simp]
        rw [show ((d.length : Int) + 1) = ((d.length + 1 : Nat) : Int) by omega, this]
        simp only [List.length_cons, List.range_succ_eq_map, List.map_cons, List.map_map, List.append_assoc, List.singleton_append, Prod.mk.injEq, List.append_cancel_left_eq, List.cons.injEq]
        refine ⟨⟨by simp, List.map_congr_left fun j _ => ?_⟩, by congr 2; omega⟩
        simp only [Function.comp]
        congr 3; omega
    have := key l 0 [] rfl
    simpa using this
theorem Conv_held {α : Type} {l : List α} {f : Int → Int → M (Int ⊕ (Int ⊕ Int))} (w k : Int) (hl : l.length ≤ 9223372036854775807) (H : ∀ (i : Nat) x, l[i]? = some x → M.Conv (f i (k + w * i)) (.inl (k + w * (i + 1)))) :
    M.Conv (M.forI 0 (l.length : Int) (fun s => .inl s) f k) (.inl (k + w * l.length)) := by
  refine (M.Conv_forI (l := l) (fun i _ _ => .inl (k + w * (i + 1))) (fun i s => s = k + w * i) hl (by simp) fun i x s hx hI => ?_).of ?_
  · subst hI
    exact ⟨H i x hx, fun s' es => by cases es; simp⟩
  · have key : ∀ (xs : List α) (i : Nat), M.run (σ := Int) (ρ := Int ⊕ Int) (fun i _ _ => .inl (k + w * ((i : Int) + 1))) (fun s => .inl s) i xs (k + w * i) = .inl (k + w * (i + xs.length : Nat)) := by
      intro xs
      induction xs with
      | nil => intro i; simp [M.run]
      | cons x xs ih =>
        intro i
        simp only [M.run, List.length_cons]
        rw [show ((i : Int) + 1) = ((i + 1 : Nat) : Int) by omega, ih (i + 1)]
        congr 3; omega
    have := key l 0
    simpa using this
theorem markI_ok {a : List Int} (h : smI a) (k : Int) (h0 : 0 ≤ k) (hk : k ≤ 2305843009213693952) :
    ∃ (k' : Int) (a' : List Int), M.Conv (laws_markInt64S a k) (k', a') ∧ k ≤ k' ∧ k' ≤ k + 1099511627776 ∧ a'.length = a.length ∧ M.Conv (laws_heldInt64S a' k) k' := by
  unfold smI at h
  refine ⟨k + 1 * a.length, (List.range a.length).map (fun (i : Nat) => k + 1 * (i : Int)), ?_, by omega, by omega, by simp, ?_⟩
  · unfold laws_markInt64S
    refine M.Conv_bind (Conv_mark 1 (fun x => x) k (by omega) fun i s hi hs => ?_) (M.Conv_ret _)
    refine M.Conv_bind (M.Conv_get (x := s[i]) (by omega) (by simp [show i < s.length by omega])) (M.Conv_bind (M.Conv_upd (show i < s.length by omega)) ((M.Conv_ret _).of ?_))
    rw [w64_eq _ (by omega)]
    congr 2; omega
  · unfold laws_heldInt64S
    have hl : ((List.range a.length).map fun i : Nat => k + 1 * (i : Int)).length = a.length := by simp
    refine M.Conv_bind (Conv_held 1 k (by rw [hl]; omega) fun i x hx => ?_) ((M.Conv_ret _).of (by rw [hl]))
    have hi := (List.getElem?_eq_some_iff.1 hx).1
    rw [hl] at hi
    have ex : x = k + 1 * i := by simp [hi] at hx; omega
    refine M.Conv_bind (M.Conv_get (by omega) (by simpa using hx)) (M.Conv_ite (fun q => by simp [ex] at q) (fun _ => (M.Conv_ret _).of ?_))
    rw [w64_eq _ (by omega)]
    congr 1; omega

theorem mul_bd {a b A B : Int} (ha : -A ≤ a ∧ a ≤ A) (hb : -B ≤ b ∧ b ≤ B) : -(A * B) ≤ a * b ∧ a * b ≤ A * B := by
  have h1 : a.natAbs ≤ A.natAbs := by omega
  have h2 : b.natAbs ≤ B.natAbs := by omega
  have h3 : (a * b).natAbs ≤ A.natAbs * B.natAbs := by rw [Int.natAbs_mul]; exact Nat.mul_le_mul h1 h2
  have hA : ((A.natAbs * B.natAbs : Nat) : Int) = A * B := by
    rw [Int.natCast_mul, Int.natAbs_of_nonneg (by omega), Int.natAbs_of_nonneg (by omega)]
  omega
theorem finB_bd {x : Int} (h : finB x = true) : -1000000 ≤ x ∧ x ≤ 1000000 := by simpa [finB] using h
theorem val_ne {x : Int} (h : valB x = true) (hn : (x == (-1000000000000000)) = false) : finB x = true := by simpa [valB, hn] using h
/-- a loop that takes elements off a list's end -/
theorem pop_loop {f : List Int → M (List Int ⊕ List Int)} (t : Int → Int → Bool) (G : List Int → Prop) (sub : ∀ x l, G (x :: l) → G l) (h1 : ∀ l, G l → l.length ≤ 1 → M.Conv (f l.reverse) (.inr l.reverse))
    (h2 : ∀ j i r, G (j :: i :: r) → M.Conv (f (j :: i :: r).reverse) (bif t j i then .inr (j :: i :: r).reverse else .inl (i :: r).reverse)) : ∀ rs, G rs → ∃ qs, G qs ∧ (∀ x ∈ qs, x ∈ rs) ∧ M.Conv (M.loop f rs.reverse) qs.reverse ∧ qs.length ≤ rs.length ∧
      (∀ (f' : List Int → M (List Int ⊕ List Int)), (∀ l, G l → l.length ≤ 1 → M.Conv (f' l.reverse) (.inr l.reverse)) → (∀ j i r, G (j :: i :: r) → M.Conv (f' (j :: i :: r).reverse) (bif t j i then .inr (j :: i :: r).reverse else .inl (i :: r).reverse)) → M.Conv (M.loop f' rs.reverse) qs.reverse) := by
  have stop : ∀ (f : List Int → M (List Int ⊕ List Int)) (s r : List Int), M.Conv (f s) (.inr r) → M.Conv (M.loop f s) r := by
    intro f s r ⟨N, h⟩
    refine ⟨max N 1, fun n hn => ?_⟩
    obtain ⟨m, rfl⟩ : ∃ m, n = m + 1 := ⟨n - 1, by omega⟩
    simp [M.loop, M.loopN, h (m + 1) (by omega)]
  have more : ∀ (f : List Int → M (List Int ⊕ List Int)) (s s' r : List Int), M.Conv (f s) (.inl s') → (∃ N m0, ∀ n, N ≤ n → ∀ m, m0 ≤ m → M.loopN f n m s' = some r) → (∃ N m0, ∀ n, N ≤ n → ∀ m, m0 ≤ m → M.loopN f n m s = some r) := by
    intro f s s' r ⟨N, h⟩ ⟨N', m0, h'⟩
    refine ⟨max N N', m0 + 1, fun n hn m hm => ?_⟩
    obtain ⟨m, rfl⟩ : ∃ q, m = q + 1 := ⟨m - 1, by omega⟩
    simp only [M.loopN, h n (by omega)]
    exact h' n (by omega) m (by omega)
  have one : ∀ (f : List Int → M (List Int ⊕ List Int)) (s r : List Int), M.Conv (f s) (.inr r) → (∃ N m0, ∀ n, N ≤ n → ∀ m, m0 ≤ m → M.loopN f n m s = some r) := by
    intro f s r ⟨N, h⟩
    refine ⟨N, 1, fun n hn m hm => ?_⟩
    obtain ⟨m, rfl⟩ : ∃ q, m = q + 1 := ⟨m - 1, by omega⟩
    simp [M.loopN, h n hn]
  have fin : ∀ (f : List Int → M (List Int ⊕ List Int)) (s r : List Int), (∃ N m0, ∀ n, N ≤ n → ∀ m, m0 ≤ m → M.loopN f n m s = some r) → M.Conv (M.loop f s) r := fun f s r ⟨N, m0, h⟩ => ⟨max N m0, fun n hn => h n (by omega) n (by omega)⟩
  suffices H : ∀ rs, G rs → ∃ qs, G qs ∧ (∀ x ∈ qs, x ∈ rs) ∧ qs.length ≤ rs.length ∧ (∀ (f' : List Int → M (List Int ⊕ List Int)), (∀ l, G l → l.length ≤ 1 → M.Conv (f' l.reverse) (.inr l.reverse)) → (∀ j i r, G (j :: i :: r) → M.Conv (f' (j :: i :: r).reverse) (bif t j i then .inr (j :: i :: r).reverse else .inl (i :: r).reverse)) →
      ∃ N m0, ∀ n, N ≤ n → ∀ m, m0 ≤ m → M.loopN f' n m rs.reverse = some qs.reverse) by
    intro rs hg
    obtain ⟨qs, a, b, c, d⟩ := H rs hg
    exact ⟨qs, a, b, fin _ _ _ (d f h1 h2), c, fun f' k1 k2 => fin _ _ _ (d f' k1 k2)⟩
  intro rs
  induction rs with
  | nil => exact fun hg => ⟨[], hg, fun _ h => h, Nat.le_refl _, fun f' k1 _ => one _ _ _ (k1 [] hg (by simp))⟩
  | cons j rs ih =>
    intro hg
    cases rs with
    | nil => exact ⟨[j], hg, fun _ h => h, Nat.le_refl _, fun f' k1 _ => one _ _ _ (k1 [j] hg (by simp))⟩
    | cons i r =>
      cases ht : t j i with
      | true => exact ⟨j :: i :: r, hg, fun _ h => h, Nat.le_refl _, fun f' _ k2 => one _ _ _ (by have := k2 j i r hg; rwa [ht] at this)⟩
      | false =>
        obtain ⟨qs, a, b, c, d⟩ := ih (sub _ _ hg)
        exact ⟨qs, a, fun x hx => List.mem_cons_of_mem _ (b x hx), Nat.le_succ_of_le c, fun f' k1 k2 => more _ _ _ _ (by have := k2 j i r hg; rwa [ht] at this) (d f' k1 k2)⟩
/-- an index below k, whose coefficient is finite -/
def termB (c : List Int) (k : Nat) (t : Int) : Prop := 0 ≤ t ∧ t < k ∧ ∃ x, c[t.toNat]? = some x ∧ finB x = true
theorem rev_last {j i : Int} {r : List Int} : (j :: i :: r).reverse[(j :: i :: r).reverse.length - 1]? = some j ∧ (j :: i :: r).reverse[(j :: i :: r).reverse.length - 2]? = some i := by
  constructor
  · simp
  · simp
theorem rev_init {j i : Int} {r : List Int} : ((j :: i :: r).reverse.drop 0).take ((j :: i :: r).reverse.length - 1) = (i :: r).reverse := by
  simp [List.take_append]
  exact List.take_of_length_le (by simp)
/-- what the loop's round reads -/
theorem reads2 {j i : Int} {r : List Int} (hlen : (j :: i :: r).length ≤ 12) : M.Conv (M.idx (j :: i :: r).reverse (w64 (((j :: i :: r).reverse.length : Int) - 2))) i ∧ M.Conv (M.idx (j :: i :: r).reverse (w64 (((j :: i :: r).reverse.length : Int) - 1))) j ∧
    M.Conv (M.sub (j :: i :: r).reverse 0 (w64 (((j :: i :: r).reverse.length : Int) - 1))) (i :: r).reverse := by
  have hl : (j :: i :: r).reverse.length = r.length + 2 := by simp
  simp only [List.length_cons] at hlen
  rw [w64_eq _ (by rw [hl]; omega), w64_eq _ (by rw [hl]; omega)]
  refine ⟨M.Conv_get (by rw [hl]; omega) ?_, M.Conv_get (by rw [hl]; omega) ?_, (M.Conv_sub (by omega) (by rw [hl]; omega) (by rw [hl]; omega)).of ?_⟩
  · have := (rev_last (j := j) (i := i) (r := r)).2
    rw [show (((j :: i :: r).reverse.length : Int) - 2).toNat = (j :: i :: r).reverse.length - 2 by omega]; exact this
  · have := (rev_last (j := j) (i := i) (r := r)).1
    rw [show (((j :: i :: r).reverse.length : Int) - 1).toNat = (j :: i :: r).reverse.length - 1 by omega]; exact this
  · rw [show (((j :: i :: r).reverse.length : Int) - 1).toNat - (0 : Int).toNat = (j :: i :: r).reverse.length - 1 by omega]; exact rev_init
/-- the rounds of the two programs, named -/
def popS (c : List Int) (i1 : Int) (s3 : List Int) : M (List Int ⊕ List Int) := M.ite (decide (1 < (s3.length : Int))) (M.bind (M.idx s3 (w64 ((s3.length : Int) - 2))) (fun x4 => M.bind (M.idx s3 (w64 ((s3.length : Int) - 1))) (fun x5 => M.bind (M.idx c x5) (fun x6 => M.bind (M.idx c x4) (fun x7 => M.bind (M.idx c i1) (fun x8 => M.bind (M.idx c x5) (fun x9 => M.ite (decide ((w64 ((w64 (x8 - x9)) * (w64 (x5 - x4)))) < (w64 ((w64 (x6 - x7)) * (w64 (i1 - x5)))))) (M.ret (.inr s3)) (M.bind (M.sub s3 0 (w64 ((s3.length : Int) - 1))) (fun x10 => M.ret (.inl x10)))))))))) (M.ret (.inr s3))
def popI (c : List Int) (i1 x2 : Int) (s3 : List Int) : M (List Int ⊕ List Int) := M.ite (decide (1 < (s3.length : Int))) (M.bind (M.idx s3 (w64 ((s3.length : Int) - 2))) (fun x4 => M.bind (M.idx s3 (w64 ((s3.length : Int) - 1))) (fun x5 => M.bind (M.idx c x5) (fun x6 => M.bind (M.idx c x4) (fun x7 => M.bind (M.idx c x4) (fun x8 => M.ite (decide ((w64 ((w64 (x2 - x8)) * (w64 (x5 - x4)))) < (w64 ((w64 (x6 - x7)) * (w64 (i1 - x4)))))) (M.ret (.inr s3)) (M.bind (M.sub s3 0 (w64 ((s3.length : Int) - 1))) (fun x9 => M.ret (.inl x9))))))))) (M.ret (.inr s3))
def hullS (c : List Int) (i1 : Int) (s1 : List Int) : M (List Int ⊕ List Int) := M.bind (M.bind (M.idx c i1) (fun x2 => M.ite (x2 == (-1000000000000000)) (M.ret s1) (M.bind (M.loop (popS c i1) s1) (fun x3 => M.bind (M.app x3 ([i1] : List Int)) (fun l1 => M.ret l1))))) (fun (s2 : (List Int)) => M.ret (.inl s2))
def hullI (c : List Int) (i1 : Int) (s1 : List Int) : M (List Int ⊕ List Int) := M.bind (M.bind (M.idx c i1) (fun x2 => M.ite (x2 == (-1000000000000000)) (M.ret s1) (M.bind (M.loop (popI c i1 x2) s1) (fun x3 => M.bind (M.app x3 ([i1] : List Int)) (fun l1 => M.ret l1))))) (fun (s2 : (List Int)) => M.ret (.inl s2))
theorem spec_l09Terms_eq (c : List Int) : spec_l09Terms c = M.bind (M.forI 0 (c.length : Int) (fun s => s) (hullS c) []) (fun x1 => M.ret x1) := rfl
theorem impl_essentialTerms_eq (c : List Int) : impl_essentialTerms c = M.bind (M.forI 0 (c.length : Int) (fun s => s) (hullI c) []) (fun x1 => M.ret x1) := rfl
def keepB (c : List Int) (k x j i : Int) : Bool := decide ((x - (c[j.toNat]?).getD 0) * (j - i) < ((c[j.toNat]?).getD 0 - (c[i.toNat]?).getD 0) * (k - j))
def GoodT (c : List Int) (k : Nat) (l : List Int) : Prop := l.length ≤ 12 ∧ (∀ t ∈ l, termB c k t) ∧ List.Pairwise (fun a b => b < a) l
theorem GoodT.reads {c : List Int} {k : Nat} {j i : Int} {r : List Int} (hk : k ≤ 12) (h : GoodT c k (j :: i :: r)) : ∃ cj ci, M.Conv (M.idx c j) cj ∧ M.Conv (M.idx c i) ci ∧ (-1000000 ≤ cj ∧ cj ≤ 1000000) ∧ (-1000000 ≤ ci ∧ ci ≤ 1000000) ∧ 0 ≤ i ∧ 0 ≤ j ∧ j < k ∧ i < k ∧ (c[j.toNat]?).getD 0 = cj ∧ (c[i.toNat]?).getD 0 = ci := by
  obtain ⟨_, hm, _⟩ := h
  obtain ⟨a1, a2, cj, a3, a4⟩ := hm j List.mem_cons_self
  obtain ⟨b1, b2, ci, b3, b4⟩ := hm i (List.mem_cons_of_mem _ List.mem_cons_self)
  exact ⟨cj, ci, M.Conv_get a1 a3, M.Conv_get b1 b3, finB_bd a4, finB_bd b4, b1, a1, a2, b2, by simp [a3], by simp [b3]⟩
theorem small_len {l : List Int} (hl : l.length ≤ 1) : decide (1 < (l.reverse.length : Int)) = false := decide_eq_false (by simp; omega)
theorem big_len (j i : Int) (r : List Int) : decide (1 < ((j :: i :: r).reverse.length : Int)) = true := decide_eq_true (by simp; omega)
theorem popS_ok {c : List Int} {k : Nat} {x j i : Int} {r : List Int} (hk : k ≤ 12) (hx : c[k]? = some x) (bx : -1000000 ≤ x ∧ x ≤ 1000000) (hg : GoodT c k (j :: i :: r)) :
    M.Conv (popS c k (j :: i :: r).reverse) (bif keepB c k x j i then .inr (j :: i :: r).reverse else .inl (i :: r).reverse) := by
  obtain ⟨cj, ci, r1, r2, b1, b2, i0, j0, j1, i1, e1, e2⟩ := hg.reads hk
  obtain ⟨q1, q2, q3⟩ := reads2 hg.1
  have hget : M.Conv (M.idx c (k : Int)) x := M.Conv_get (by omega) (by simpa using hx)
  refine M.Conv_ite (fun _ => ?_) (fun h => by rw [big_len] at h; cases h)
  refine M.Conv_bind q1 (M.Conv_bind q2 (M.Conv_bind r1 (M.Conv_bind r2 (M.Conv_bind hget (M.Conv_bind r1 ?_)))))
  have m1 := mul_bd (a := x - cj) (b := j - i) (A := 2000000) (B := 12) (by omega) (by omega)
  have m2 := mul_bd (a := cj - ci) (b := k - j) (A := 2000000) (B := 12) (by omega) (by omega)
  rw [w64_eq (x - cj) (by omega), w64_eq (j - i) (by omega), w64_eq (cj - ci) (by omega), w64_eq (k - j) (by omega), w64_eq _ (by omega), w64_eq _ (by omega)]
  have et : keepB c k x j i = decide ((x - cj) * (j - i) < (cj - ci) * (k - j)) := by simp only [keepB, e1, e2]
  rw [et]
  refine M.Conv_ite (fun h => ?_) (fun h => ?_)
  · rw [h]; exact M.Conv_ret _
  · rw [h]; exact M.Conv_bind q3 (M.Conv_ret _)
theorem popI_ok {c : List Int} {k : Nat} {x j i : Int} {r : List Int} (hk : k ≤ 12) (bx : -1000000 ≤ x ∧ x ≤ 1000000) (hg : GoodT c k (j :: i :: r)) :
    M.Conv (popI c k x (j :: i :: r).reverse) (bif keepB c k x j i then .inr (j :: i :: r).reverse else .inl (i :: r).reverse) := by
  obtain ⟨cj, ci, r1, r2, b1, b2, i0, j0, j1, i1, e1, e2⟩ := hg.reads hk
  obtain ⟨q1, q2, q3⟩ := reads2 hg.1
  refine M.Conv_ite (fun _ => ?_) (fun h => by rw [big_len] at h; cases h)
  refine M.Conv_bind q1 (M.Conv_bind q2 (M.Conv_bind r1 (M.Conv_bind r2 (M.Conv_bind r2 ?_))))
  have m1 := mul_bd (a := x - ci) (b := j - i) (A := 2000000) (B := 12) (by omega) (by omega)
  have m2 := mul_bd (a := cj - ci) (b := k - i) (A := 2000000) (B := 12) (by omega) (by omega)
  rw [w64_eq (x - ci) (by omega), w64_eq (j - i) (by omega), w64_eq (cj - ci) (by omega), w64_eq (k - i) (by omega), w64_eq _ (by omega), w64_eq _ (by omega)]
  have et : keepB c k x j i = decide ((x - ci) * (j - i) < (cj - ci) * (k - i)) := by
    simp only [keepB, e1, e2]
    congr 1
    rw [eq_iff_iff]
    have a1 : (x - ci) * (j - i) = (x - cj) * (j - i) + (cj - ci) * (j - i) := by rw [← Int.add_mul]; congr 1; omega
    have a2 : (cj - ci) * (k - i) = (cj - ci) * (k - j) + (cj - ci) * (j - i) := by rw [← Int.mul_add]; congr 1; omega
    omega
  rw [et]
  refine M.Conv_ite (fun h => ?_) (fun h => ?_)
  · rw [h]; exact M.Conv_ret _
  · rw [h]; exact M.Conv_bind q3 (M.Conv_ret _)
/-- the terms found among the first k coefficients, the last one first -/
def TermsT (c : List Int) (k : Nat) (rs : List Int) : Prop := rs.length ≤ k ∧ (∀ t ∈ rs, termB c k t) ∧ List.Pairwise (fun a b => b < a) rs ∧ ((c.take k).any (· != (-1000000000000000)) = true → rs ≠ [])
theorem hull_round {c : List Int} {k : Nat} {x : Int} {rs : List Int} (hc : c.length ≤ 12) (hv : ∀ x ∈ c, valB x = true) (hx : c[k]? = some x) (hG : TermsT c k rs) :
    ∃ rs', TermsT c (k + 1) rs' ∧ M.Conv (hullS c k rs.reverse) (.inl rs'.reverse) ∧ M.Conv (hullI c k rs.reverse) (.inl rs'.reverse) := by
  have hk := (List.getElem?_eq_some_iff.1 hx).1
  have hmem : x ∈ c := List.mem_of_getElem? hx
  have hget : M.Conv (M.idx c (k : Int)) x := M.Conv_get (by omega) (by simpa using hx)
  have htk : c.take (k + 1) = c.take k ++ [x] := by rw [List.take_add_one, hx]; rfl
  obtain ⟨g1, g2, g3, g4⟩ := hG
  have up : ∀ t, termB c k t → termB c (k + 1) t := fun t ⟨a, b, d⟩ => ⟨a, by omega, d⟩
  cases hb : (x == (-1000000000000000)) with
  | true =>
    refine ⟨rs, ⟨by omega, fun t ht => up t (g2 t ht), g3, fun h => g4 ?_⟩, ?_, ?_⟩
    · rw [htk, List.any_append] at h
      simpa [bne, hb] using h
    · exact M.Conv_bind (M.Conv_bind hget (M.Conv_ite (fun _ => M.Conv_ret _) (fun h => by rw [hb] at h; cases h))) (M.Conv_ret _)
    · exact M.Conv_bind (M.Conv_bind hget (M.Conv_ite (fun _ => M.Conv_ret _) (fun h => by rw [hb] at h; cases h))) (M.Conv_ret _)
  | false =>
    have hfx := val_ne (hv x hmem) hb
    have bx := finB_bd hfx
    have hG' : GoodT c k rs := ⟨by omega, g2, g3⟩
    have subG : ∀ x l, GoodT c k (x :: l) → GoodT c k l := fun x l ⟨a, b, d⟩ => ⟨by simp at a; omega, fun t ht => b t (List.mem_cons_of_mem _ ht), (List.pairwise_cons.1 d).2⟩
    obtain ⟨qs, q1, q2, q3, q4, q5⟩ := pop_loop (f := popS c k) (keepB c k x) (GoodT c k) subG (fun l _ hl => M.Conv_ite (fun h => by rw [small_len hl] at h; cases h) (fun _ => M.Conv_ret _)) (fun j i r hg => popS_ok (by omega) hx bx hg) rs hG'
    have q6 := q5 (popI c k x) (fun l _ hl => M.Conv_ite (fun h => by rw [small_len hl] at h; cases h) (fun _ => M.Conv_ret _)) (fun j i r hg => popI_ok (by omega) bx hg)
    have happ : M.Conv (M.app qs.reverse ([(k : Int)] : List Int)) ((k : Int) :: qs).reverse := (M.Conv_app (by simp; omega)).of (by simp)
    refine ⟨(k : Int) :: qs, ⟨by simp; omega, fun t ht => ?_, ?_, fun _ => by simp⟩, ?_, ?_⟩
    · rcases List.mem_cons.1 ht with rfl | ht
      · exact ⟨by omega, by omega, x, by simpa using hx, hfx⟩
      · exact up t (q1.2.1 t ht)
    · exact List.pairwise_cons.2 ⟨fun a ha => (q1.2.1 a ha).2.1, q1.2.2⟩
    · exact M.Conv_bind (M.Conv_bind hget (M.Conv_ite (fun h => by rw [hb] at h; cases h) (fun _ => M.Conv_bind q3 (M.Conv_bind happ (M.Conv_ret _))))) (M.Conv_ret _)
    · exact M.Conv_bind (M.Conv_bind hget (M.Conv_ite (fun h => by rw [hb] at h; cases h) (fun _ => M.Conv_bind q6 (M.Conv_bind happ (M.Conv_ret _))))) (M.Conv_ret _)
theorem hull_rounds {c : List Int} (hc : c.length ≤ 12) (hv : ∀ x ∈ c, valB x = true) : ∀ (d k : Nat) (rs : List Int), k + d = c.length → TermsT c k rs → ∃ rs', TermsT c c.length rs' ∧
    (∃ N, ∀ n, N ≤ n → M.forN (c.length : Int) (fun s => s) (hullS c) n d k rs.reverse = some rs'.reverse) ∧ (∃ N, ∀ n, N ≤ n → M.forN (c.length : Int) (fun s => s) (hullI c) n d k rs.reverse = some rs'.reverse)
  | 0, k, rs, hk, hG => by
    obtain rfl : k = c.length := by omega
    exact ⟨rs, hG, ⟨0, fun n _ => by simp [M.forN]⟩, ⟨0, fun n _ => by simp [M.forN]⟩⟩
  | d + 1, k, rs, hk, hG => by
    have hlt : k < c.length := by omega
    have hlt' : (k : Int) < (c.length : Int) := by omega
    obtain ⟨rs1, g1, ⟨N1, s1⟩, ⟨N2, s2⟩⟩ := hull_round hc hv (List.getElem?_eq_getElem hlt) hG
    obtain ⟨rs2, g2, ⟨N3, s3⟩, ⟨N4, s4⟩⟩ := hull_rounds hc hv d (k + 1) rs1 (by omega) g1
    refine ⟨rs2, g2, ⟨max N1 N3, fun n hn => ?_⟩, ⟨max N2 N4, fun n hn => ?_⟩⟩
    · simp only [M.forN, hlt', decide_true, cond_true, s1 n (by omega)]
      have := s3 n (by omega)
      simpa using this
    · simp only [M.forN, hlt', decide_true, cond_true, s2 n (by omega)]
      have := s4 n (by omega)
      simpa using this
/-- the essential terms: what both programs come to -/
theorem terms_ok {c : List Int} (hc : c.length ≤ 12) (hv : c.all valB = true) : ∃ h : List Int, M.Conv (spec_l09Terms c) h ∧ M.Conv (impl_essentialTerms c) h ∧ h.length ≤ c.length ∧ (∀ t ∈ h, termB c c.length t) ∧ (c.any (· != (-1000000000000000)) = true → h ≠ []) ∧ List.Pairwise (· < ·) h := by
  rw [List.all_eq_true] at hv
  obtain ⟨rs, ⟨g1, g2, g3, g4⟩, ⟨N1, s1⟩, ⟨N2, s2⟩⟩ := hull_rounds hc hv c.length 0 [] (by simp) ⟨by simp, by simp, List.Pairwise.nil, by simp⟩
  have hl : (c.length : Int) ≤ 9223372036854775807 := by omega
  refine ⟨rs.reverse, ?_, ?_, by simpa using g1, fun t ht => g2 t (by simpa using ht), fun h => by simpa using g4 (by simpa using h), ?_⟩
  · rw [spec_l09Terms_eq]
    refine M.Conv_bind ⟨N1, fun n hn => ?_⟩ (M.Conv_ret _)
    simp only [M.forI, hl, decide_true, Bool.and_true, show (-9223372036854775808 : Int) ≤ 0 by decide, cond_true]
    have := s1 n hn
    simpa using this
  · rw [impl_essentialTerms_eq]
    refine M.Conv_bind ⟨N2, fun n hn => ?_⟩ (M.Conv_ret _)
    simp only [M.forI, hl, decide_true, Bool.and_true, show (-9223372036854775808 : Int) ≤ 0 by decide, cond_true]
    have := s2 n hn
    simpa using this
  · rw [List.pairwise_reverse]; exact g3

/-- two programs, one answer -/
def Two {α : Type} (m m' : M α) (Post : α → Prop) : Prop := ∃ r, M.Conv m r ∧ M.Conv m' r ∧ Post r
theorem Two.mk {α : Type} {m m' : M α} {Post : α → Prop} {r : α} (h : M.Conv m r) (h' : M.Conv m' r) (p : Post r) : Two m m' Post := ⟨r, h, h', p⟩
theorem Two.ret {α : Type} {Post : α → Prop} (r : α) (p : Post r) : Two (M.ret r) (M.ret r) Post := ⟨r, M.Conv_ret _, M.Conv_ret _, p⟩
theorem Two.bind {α β : Type} {m m' : M α} {f f' : α → M β} {P : α → Prop} {Q : β → Prop} (h : Two m m' P) (g : ∀ x, P x → Two (f x) (f' x) Q) : Two (M.bind m f) (M.bind m' f') Q := by
  obtain ⟨x, h1, h2, p⟩ := h
  obtain ⟨r, g1, g2, q⟩ := g x p
  exact ⟨r, M.Conv_bind h1 g1, M.Conv_bind h2 g2, q⟩
theorem Two.bindC {α α' β : Type} {m : M α} {m' : M α'} {f : α → M β} {f' : α' → M β} {Q : β → Prop} {x : α} {x' : α'} (h : M.Conv m x) (h' : M.Conv m' x') (g : Two (f x) (f' x') Q) : Two (M.bind m f) (M.bind m' f') Q := by
  obtain ⟨r, g1, g2, q⟩ := g
  exact ⟨r, M.Conv_bind h g1, M.Conv_bind h' g2, q⟩
theorem Two.left {α β : Type} {m : M α} {m' : M β} {f : α → M β} {Q : β → Prop} {x : α} (h : M.Conv m x) (g : Two (f x) m' Q) : Two (M.bind m f) m' Q := by
  obtain ⟨r, g1, g2, q⟩ := g
  exact ⟨r, M.Conv_bind h g1, g2, q⟩
theorem Two.right {α β : Type} {m : M α} {m' : M β} {f : α → M β} {Q : β → Prop} {x : α} (h : M.Conv m x) (g : Two m' (f x) Q) : Two m' (M.bind m f) Q := by
  obtain ⟨r, g1, g2, q⟩ := g
  exact ⟨r, g1, M.Conv_bind h g2, q⟩
theorem Two.ite {α : Type} {b : Bool} {x y x' y' : M α} {Q : α → Prop} (h1 : b = true → Two x x' Q) (h2 : b = false → Two y y' Q) : Two (M.ite b x y) (M.ite b x' y') Q := by
  cases b
  · exact h2 rfl
  · exact h1 rfl
theorem two_forN {σ ρ : Type} {hi : Int} {fin : σ → ρ} {f f' : Int → σ → M (σ ⊕ ρ)} {Post : ρ → Prop} (I : Int → σ → Prop) (lo : Int)
    (round : ∀ i s, lo ≤ i → i < hi → I i s → Two (f i s) (f' i s) fun y => (∃ s', y = .inl s' ∧ I (i + 1) s') ∨ (∃ r, y = .inr r ∧ Post r)) :
    ∀ (d : Nat) (i : Int) (s : σ), (hi - i).toNat = d → lo ≤ i → (i ≤ hi ∨ i = lo) → I i s → (∀ i s, (i = hi ∨ i = lo ∧ hi ≤ lo) → I i s → Post (fin s)) → ∃ r, (∃ N, ∀ n, N ≤ n → M.forN hi fin f n d i s = some r) ∧ (∃ N, ∀ n, N ≤ n → M.forN hi fin f' n d i s = some r) ∧ Post r
  | 0, i, s, hd, h1, h2, hI, fi => by
    have hge : ¬ i < hi := by omega
    exact ⟨fin s, ⟨0, fun n _ => by simp [M.forN, hge]⟩, ⟨0, fun n _ => by simp [M.forN, hge]⟩, fi i s (by omega) hI⟩
  | d + 1, i, s, hd, h1, h2, hI, fi => by
    have hlt : i < hi := by omega
    obtain ⟨y, ⟨N, hy⟩, ⟨N', hy'⟩, hc⟩ := round i s h1 hlt hI
    rcases hc with ⟨s', rfl, hI'⟩ | ⟨r, rfl, hp⟩
    · obtain ⟨r, ⟨N1, h3⟩, ⟨N2, h4⟩, hp⟩ := two_forN (fin := fin) I lo round d (i + 1) s' (by omega) (by omega) (by omega) hI' fi
      exact ⟨r, ⟨max N N1, fun n hn => by simp [M.forN, hlt, hy n (by omega), h3 n (by omega)]⟩, ⟨max N' N2, fun n hn => by simp [M.forN, hlt, hy' n (by omega), h4 n (by omega)]⟩, hp⟩
    · exact ⟨r, ⟨N, fun n hn => by simp [M.forN, hlt, hy n hn]⟩, ⟨N', fun n hn => by simp [M.forN, hlt, hy' n hn]⟩, hp⟩
theorem Two.for {σ ρ : Type} {lo hi : Int} {fin : σ → ρ} {f f' : Int → σ → M (σ ⊕ ρ)} {s : σ} {Post : ρ → Prop} (I : Int → σ → Prop) (hlo : -9223372036854775808 ≤ lo) (hhi : hi ≤ 9223372036854775807) (h0 : I lo s)
    (round : ∀ i s, lo ≤ i → i < hi → I i s → Two (f i s) (f' i s) fun y => (∃ s', y = .inl s' ∧ I (i + 1) s') ∨ (∃ r, y = .inr r ∧ Post r)) (done : ∀ i s, (i = hi ∨ i = lo ∧ hi ≤ lo) → I i s → Post (fin s)) :
    Two (M.forI lo hi fin f s) (M.forI lo hi fin f' s) Post := by
  obtain ⟨r, ⟨N, h1⟩, ⟨N', h2⟩, hp⟩ := two_forN (fin := fin) I lo round _ lo s rfl (Int.le_refl _) (.inr rfl) h0 done
  exact ⟨r, ⟨N, fun n hn => by simp [M.forI, hlo, hhi, h1 n hn]⟩, ⟨N', fun n hn => by simp [M.forI, hlo, hhi, h2 n hn]⟩, hp⟩
theorem polyB_len {c : List Int} (h : polyB c = true) : c.length ≤ 12 ∧ c.all valB = true ∧ c.any (· != (-1000000000000000)) = true := by
  simp only [polyB, Bool.and_eq_true, decide_eq_true_eq] at h
  exact ⟨h.1.1, h.1.2, h.2⟩
def ConvL {σ ρ : Type} (f : σ → M (σ ⊕ ρ)) (s : σ) (r : ρ) : Prop := ∃ N m0, ∀ n, N ≤ n → ∀ m, m0 ≤ m → M.loopN f n m s = some r
theorem ConvL.conv {σ ρ : Type} {f : σ → M (σ ⊕ ρ)} {s : σ} {r : ρ} (h : ConvL f s r) : M.Conv (M.loop f s) r := by
  obtain ⟨N, m0, h⟩ := h
  exact ⟨max N m0, fun n hn => h n (by omega) n (by omega)⟩
theorem ConvL.step {σ ρ : Type} {f : σ → M (σ ⊕ ρ)} {s s' : σ} {r : ρ} (h1 : M.Conv (f s) (.inl s')) (h : ConvL f s' r) : ConvL f s r := by
  obtain ⟨N, h1⟩ := h1
  obtain ⟨N', m0, h⟩ := h
  refine ⟨max N N', m0 + 1, fun n hn m hm => ?_⟩
  obtain ⟨m, rfl⟩ : ∃ q, m = q + 1 := ⟨m - 1, by omega⟩
  simp only [M.loopN, h1 n (by omega)]
  exact h n (by omega) m (by omega)
theorem ConvL.stop {σ ρ : Type} {f : σ → M (σ ⊕ ρ)} {s : σ} {r : ρ} (h1 : M.Conv (f s) (.inr r)) : ConvL f s r := by
  obtain ⟨N, h1⟩ := h1
  refine ⟨N, 1, fun n hn m hm => ?_⟩
  obtain ⟨m, rfl⟩ : ∃ q, m = q + 1 := ⟨m - 1, by omega⟩
  simp only [M.loopN, h1 n hn]
def gcdF (s1 : Int × Int) : M ((Int × Int) ⊕ (Int × Int)) := M.ite (decide (0 < s1.2)) (M.bind (M.guard (s1.2 != 0)) (fun _ => M.ret (.inl (s1.2, (s1.1.tmod s1.2))))) (M.ret (.inr (s1.1, s1.2)))
theorem gcd_loop : ∀ (m : Nat) (a b : Int), b.toNat < m → 0 ≤ a → 0 ≤ b → ∃ d, ConvL gcdF (a, b) (d, 0) ∧ 0 ≤ d ∧ (0 < a ∨ 0 < b → 0 < d)
  | 0, _, _, h, _, _ => by omega
  | m + 1, a, b, h, ha, hb => by
    by_cases h0 : 0 < b
    · have hm : 0 ≤ a.tmod b := Int.tmod_nonneg b ha
      have hl : a.tmod b < b := Int.tmod_lt_of_pos a h0
      obtain ⟨d, k1, k2, k3⟩ := gcd_loop m b (a.tmod b) (by omega) hb hm
      refine ⟨d, ConvL.step (s' := (b, a.tmod b)) ?_ k1, k2, fun _ => k3 (.inl h0)⟩
      exact M.Conv_ite (fun _ => M.Conv_bind (M.Conv_guard (by simp; omega)) (M.Conv_ret _)) (fun q => by have := of_decide_eq_false q; simp only at this; omega)
    · obtain rfl : b = 0 := by omega
      exact ⟨a, ConvL.stop (M.Conv_ite (fun q => by have := of_decide_eq_true q; simp only at this; omega) (fun _ => M.Conv_ret _)), ha, fun h => by omega⟩
theorem divisor_same {a b : Int} (ha : -9000000000000000000 ≤ a ∧ a ≤ 9000000000000000000) (hb : 0 < b ∧ b ≤ 9000000000000000000) : ∃ d, 0 < d ∧ M.Conv (spec_l01Divisor a b) d ∧ ∀ x, M.Conv (impl_absOf a) x → M.Conv (impl_divisorOf x b) d := by
  have e1 : mx a (w64 (0 - a)) = (a.natAbs : Int) := by rw [w64_eq _ (by omega), mx_eq]; omega
  have e2 : mx b (w64 (0 - b)) = b := by rw [w64_eq _ (by omega), mx_eq]; omega
  obtain ⟨d, k1, _, k3⟩ := gcd_loop _ (a.natAbs : Int) b (Nat.lt_succ_self _) (by omega) (by omega)
  refine ⟨d, k3 (.inr hb.1), ?_, fun x hx => ?_⟩
  · unfold spec_l01Divisor
    rw [e1, e2]
    exact M.Conv_bind k1.conv (M.Conv_ret _)
  · have : M.Conv (impl_absOf a) (a.natAbs : Int) := M.Conv_ite (fun q => by have := of_decide_eq_true q; exact (M.Conv_ret _).of (by rw [w64_eq _ (by omega)]; omega)) (fun q => by have := of_decide_eq_false q; exact (M.Conv_ret _).of (by omega))
    obtain rfl := hx.unique this
    exact M.Conv_bind k1.conv (M.Conv_ret _)
theorem absOf_conv (a : Int) : ∃ x, M.Conv (impl_absOf a) x := by
  unfold impl_absOf
  cases h : decide (a < 0)
  · exact ⟨_, M.Conv_ret _⟩
  · exact ⟨_, M.Conv_ret _⟩
theorem ratio_same {num den : Int} (hn : -4000000 ≤ num ∧ num ≤ 4000000) (hd : 0 < den ∧ den ≤ 4000000) : Two (spec_l01Ratio num den) (impl_ratioOf num den) (fun _ => True) := by
  unfold spec_l01Ratio impl_ratioOf
  have h0 : M.Conv (M.ite (decide (den < 0)) (M.ret ((w64 (0 - num)), (w64 (0 - den)))) (M.ret (num, den))) (num, den) := M.Conv_ite (fun q => by have := of_decide_eq_true q; omega) (fun _ => M.Conv_ret _)
  refine Two.bindC h0 h0 ?_
  obtain ⟨d, d0, k1, k2⟩ := divisor_same (a := num) (b := den) (by omega) (by omega)
  obtain ⟨x, hx⟩ := absOf_conv num
  have hg : (d != 0) = true := by simp; omega
  exact Two.right hx (Two.bindC k1 (k2 x hx) (Two.bindC (M.Conv_guard hg) (M.Conv_guard hg) (Two.bindC (M.Conv_guard hg) (M.Conv_guard hg) (Two.ret _ trivial))))
theorem isRatio_same (r : TRatio) : Two (spec_IsRatio r) (impl_IsRatio r) (fun _ => True) := by
  unfold spec_IsRatio impl_IsRatio
  refine Two.bindC (spec_l01Finite_ok _) (impl_isFinite_ok _) ?_
  refine Two.bind (P := fun b => b = true → finB r.Num = true ∧ 1 ≤ r.Den ∧ r.Den ≤ 1000000) (Two.ite (fun q => ?_) (fun _ => Two.ret _ (by simp))) (fun b hb => ?_)
  · exact Two.bindC (spec_l01In_ok _ _ _) (impl_within_ok _ _ _) (Two.ret _ (fun h => by simp only [Bool.and_eq_true, decide_eq_true_eq] at h; exact ⟨q, h⟩))
  · refine Two.bind (P := fun _ => True) (Two.ite (fun q => ?_) (fun _ => Two.ret _ trivial)) (fun x _ => Two.ret _ trivial)
    obtain ⟨h1, h2, h3⟩ := hb q
    have bn := finB_bd h1
    obtain ⟨d, d0, k1, k2⟩ := divisor_same (a := r.Num) (b := r.Den) (by omega) (by omega)
    obtain ⟨x, hx⟩ := absOf_conv r.Num
    exact Two.right hx (Two.bindC k1 (k2 x hx) (Two.ret _ trivial))
def smC (l : List TCorner) : Prop := l.length ≤ 1099511627
theorem eqC_refl {a : List TCorner} (h : smC a) : M.Conv (laws_eqCornerS a a) true := by
  unfold smC at h
  unfold laws_eqCornerS
  refine M.Conv_ite (fun q => by simp at q) (fun _ => M.Conv_bind (M.Conv_all (fun _ => true) false (by omega) fun i x hx => ?_) ?_)
  case refine_2 => rw [show (a.all fun _ => true) = true by simp]; exact M.Conv_ret _
  have hg : M.Conv (M.idx a i) x := M.Conv_get (by omega) (by simpa using hx)
  have he : M.Conv (laws_eqCorner x x) true := by
    unfold laws_eqCorner laws_eqRatio
    exact M.Conv_bind (M.Conv_ite (fun q => by simp at q) (fun _ => M.Conv_ite (fun q => by simp at q) (fun _ => M.Conv_ret _))) (M.Conv_ite (fun q => by simp at q) (fun _ => M.Conv_ite (fun q => by simp at q) (fun _ => M.Conv_ret _)))
  exact M.Conv_bind hg (M.Conv_bind hg (M.Conv_bind he (M.Conv_ite (fun q => by simp at q) (fun _ => M.Conv_ret _))))
theorem markC_ok {a : List TCorner} (h : smC a) (k : Int) (h0 : 0 ≤ k) (hk : k ≤ 2305843009213693952) :
    ∃ (k' : Int) (a' : List TCorner), M.Conv (laws_markCornerS a k) (k', a') ∧ k ≤ k' ∧ k' ≤ k + 1099511627776 ∧ a'.length = a.length ∧ M.Conv (laws_heldCornerS a' k) k' := by
  unfold smC at h
  let e : Int → TCorner := fun q => ⟨⟨q, q + 1⟩, q + 2⟩
  refine ⟨k + 3 * a.length, (List.range a.length).map (fun (i : Nat) => e (k + 3 * (i : Int))), ?_, by omega, by omega, by simp, ?_⟩
  · unfold laws_markCornerS
    refine M.Conv_bind (Conv_mark 3 e k (by omega) fun i s hi hs => ?_) (M.Conv_ret _)
    have his : i < s.length := by omega
    have w1 : w64 (k + 3 * (i : Int) + 1) = k + 3 * i + 1 := w64_eq _ (by omega)
    have w2 : w64 (k + 3 * (i : Int) + 1 + 1) = k + 3 * i + 2 := (w64_eq _ (by omega)).trans (by omega)
    have w3 : w64 (k + 3 * (i : Int) + 2 + 1) = k + 3 * (i + 1) := (w64_eq _ (by omega)).trans (by omega)
    have g : ∀ y : TCorner, M.Conv (M.idx (s.set i y) (i : Int)) y := fun y => M.Conv_get (by omega) (by simp [his])
    simp only [w1, w2, w3]
    refine M.Conv_bind (M.Conv_get (x := s[i]) (by omega) (by simp [his])) (M.Conv_bind (M.Conv_upd his) (M.Conv_bind (g _) (M.Conv_bind (M.Conv_upd (by simpa using his)) ?_)))
    rw [List.set_set]
    refine M.Conv_bind (g _) (M.Conv_bind (M.Conv_upd (by simpa using his)) ?_)
    rw [List.set_set]
    exact M.Conv_ret _
  · unfold laws_heldCornerS
    have hl : ((List.range a.length).map fun i : Nat => e (k + 3 * (i : Int))).length = a.length := by simp
    refine M.Conv_bind (Conv_held 3 k (by rw [hl]; omega) fun i x hx => ?_) ((M.Conv_ret _).of (by rw [hl]))
    have hi := (List.getElem?_eq_some_iff.1 hx).1
    rw [hl] at hi
    have ex : x = e (k + 3 * i) := by simp [hi] at hx; exact hx.symm
    have w1 : w64 (k + 3 * (i : Int) + 1) = k + 3 * i + 1 := w64_eq _ (by omega)
    have w2 : w64 (k + 3 * (i : Int) + 1 + 1) = k + 3 * i + 2 := (w64_eq _ (by omega)).trans (by omega)
    have w3 : w64 (k + 3 * (i : Int) + 2 + 1) = k + 3 * (i + 1) := (w64_eq _ (by omega)).trans (by omega)
    have g := M.Conv_get (l := (List.range a.length).map fun i : Nat => e (k + 3 * (i : Int))) (i := (i : Int)) (by omega) (by simpa using hx)
    subst ex
    simp only [w1, w2, w3]
    exact M.Conv_bind g (M.Conv_ite (fun q => by simp [e] at q) (fun _ => M.Conv_bind g (M.Conv_ite (fun q => by simp [e] at q) (fun _ => M.Conv_bind g (M.Conv_ite (fun q => by simp [e] at q) (fun _ => M.Conv_ret _))))))
theorem same_CornersOf (c : List Int) (g : fitL inI64 c) (_ : smI c) : Two (spec_CornersOf c) (impl_CornersOf c) (fun w => smC w.1) := by
  unfold spec_CornersOf impl_CornersOf
  refine Two.bindC (spec_IsPolynomial_ok g.1) (impl_IsPolynomial_ok g.1) (Two.ite (fun _ => Two.ret _ (by simp [smC])) (fun h => ?_))
  obtain ⟨h1, h2, h3⟩ := polyB_len (by simpa using h)
  obtain ⟨t, k1, k2, tl, tt, tne, tpw⟩ := terms_ok h1 h2
  refine Two.bindC k1 k2 (Two.bind (P := fun y => (∃ s, y = .inl s ∧ smC s) ∨ (∃ r, y = .inr r ∧ smC r.1)) ?_ (fun y hy => ?_))
  · refine Two.for (fun i s => (s.length : Int) ≤ i) (by omega) (by omega) (by simp) (fun m s m0 m1 hs => ?_) (fun i s hi hs => .inl ⟨s, rfl, by simp only [smC]; omega⟩)
    obtain ⟨q, rfl⟩ : ∃ q : Nat, m = (q : Int) + 1 := ⟨(m - 1).toNat, by omega⟩
    have hq : q + 1 < t.length := by omega
    have hi : t[q]? = some t[q] := List.getElem?_eq_getElem (by omega)
    have hk : t[q + 1]? = some t[q + 1] := List.getElem?_eq_getElem hq
    have hik := List.pairwise_iff_getElem.1 tpw q (q + 1) (by omega) hq (by omega)
    obtain ⟨i0, i1, xi, i2, i3⟩ := tt _ (List.mem_of_getElem? hi)
    obtain ⟨k0, k1', xk, k2', k3⟩ := tt _ (List.mem_of_getElem? hk)
    have bi := finB_bd i3
    have bk := finB_bd k3
    have ga : M.Conv (M.idx t (w64 ((q : Int) + 1 - 1))) t[q] := by
      rw [w64_eq _ (by omega)]
      exact M.Conv_get (by omega) (by rw [show ((q : Int) + 1 - 1).toNat = q by omega]; exact hi)
    have gb : M.Conv (M.idx t ((q : Int) + 1)) t[q + 1] := M.Conv_get (by omega) (by rw [show ((q : Int) + 1).toNat = q + 1 by omega]; exact hk)
    have gi : M.Conv (M.idx c t[q]) xi := M.Conv_get i0 i2
    have gk : M.Conv (M.idx c t[q + 1]) xk := M.Conv_get k0 k2'
    refine Two.bindC ga ga (Two.bindC gb gb (Two.bindC gi gi (Two.bindC gk gk ?_)))
    rw [w64_eq (xi - xk) (by omega), w64_eq (t[q + 1] - t[q]) (by omega)]
    refine Two.bind (ratio_same (by omega) (by omega)) (fun r _ => Two.bind (isRatio_same r) (fun b _ => Two.ite (fun _ => Two.ret _ (.inr ⟨_, rfl, .inr ⟨_, rfl, by simp [smC]⟩⟩)) (fun _ => ?_)))
    have happ : M.Conv (M.app s ([⟨r, t[q + 1] - t[q]⟩] : List TCorner)) (s ++ [⟨r, t[q + 1] - t[q]⟩]) := M.Conv_app (by simp; omega)
    exact Two.bindC happ happ (Two.ret _ (.inl ⟨_, rfl, by simp; omega⟩))
  · rcases hy with ⟨s, rfl, hs⟩ | ⟨r, rfl, hr⟩
    · exact Two.ret _ hs
    · exact Two.ret _ hr

theorem FnExactCornersOf_ok (aC : List Int) (gaC : fitL inI64 aC) : M.Conv (laws_FnExactCornersOf aC) true := by
  unfold laws_FnExactCornersOf
  refine M.Conv_ite (fun _ => M.Conv_ret _) (fun qaC => ?_)
  have saC : smI aC := by have := of_decide_eq_false qaC; unfold smI; omega
  refine M.Conv_bind (toI_ok saC) ?_
  obtain ⟨w, hS, hI, hw⟩ := same_CornersOf aC gaC saC
  refine M.Conv_bind hS ?_
  refine M.Conv_bind (toI_ok saC) ?_
  refine M.Conv_bind hI ?_
  refine M.Conv_bind (eqC_refl hw) ?_
  refine M.Conv_ite (fun q => ?_) (fun _ => ?_)
  · exfalso; revert q; simp
  refine M.Conv_bind (toI_ok saC) ?_
  refine M.Conv_bind (eqI_refl saC) ?_
  refine M.Conv_ite (fun q => ?_) (fun _ => ?_)
  · exfalso; revert q; simp
  obtain ⟨k1, mk1, hmk1, lek1, gek1, _, hek1⟩ := markI_ok saC _ (show (0 : Int) ≤ 1 by omega) (by omega)
  refine M.Conv_bind hmk1 ?_
  refine M.Conv_bind (x := false) (M.Conv_ite (fun q => ?_) (fun _ => M.Conv_bind (eqC_refl hw) (M.Conv_ret _))) ?_
  · exfalso; revert q; simp; omega
  refine M.Conv_ite (fun q => ?_) (fun _ => ?_)
  · exfalso; revert q; simp
  obtain ⟨k2, mk2, hmk2, lek2, gek2, _, hek2⟩ := markC_ok hw _ (show (0 : Int) ≤ 1 by omega) (by omega)
  refine M.Conv_bind hmk2 ?_
  refine M.Conv_bind hek2 ?_
  refine M.Conv_ite (fun q => ?_) (fun _ => ?_)
  · exfalso; revert q; simp; try omega
  refine M.Conv_ite (fun q => ?_) (fun _ => ?_)
  · exfalso; revert q; simp; try omega
  refine M.Conv_bind (toI_ok saC) ?_
  refine M.Conv_bind hI ?_
  refine M.Conv_bind (eqC_refl hw) ?_
  refine M.Conv_ite (fun q => ?_) (fun _ => ?_)
  · exfalso; revert q; simp; try omega
  refine M.Conv_bind hek2 ?_
  refine M.Conv_ite (fun q => ?_) (fun _ => ?_)
  · exfalso; revert q; simp; try omega
  refine M.Conv_ite (fun q => ?_) (fun _ => ?_)
  · exfalso; revert q; simp; try omega
  exact M.Conv_ret _

end Go.Proofs.Ytniaobcahkjfjaa
