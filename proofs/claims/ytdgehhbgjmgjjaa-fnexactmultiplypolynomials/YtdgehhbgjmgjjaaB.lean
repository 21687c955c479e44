/-
  Plain proofs: the plain program of the law ends with true.
  Conditions: None beyond the given statement.
-/
import Derived.Test.YtdgehhbgjmgjjaaP
namespace Go.Proofs.Ytdgehhbgjmgjjaa
open Go
/-! ### plain programs: loops over a list -/
namespace M
variable {α β σ ρ : Type}
/-- rounds over the elements of a list, each with its place; a round may leave -/
def run (g : Nat → α → σ → σ ⊕ ρ) (fin : σ → ρ) : Nat → List α → σ → ρ
  | _, [], s => fin s
  | i, x :: xs, s => match g i x s with
    | .inl s' => run g fin (i + 1) xs s'
    | .inr r => r
theorem Conv_forN {l : List α} {f : Int → σ → M (σ ⊕ ρ)} (g : Nat → α → σ → σ ⊕ ρ) (fin : σ → ρ) (I : Nat → σ → Prop) (hi : Int) :
    ∀ (xs : List α) (i : Nat) (s : σ), hi = (i + xs.length : Nat) → I i s → (∀ (j : Nat) x s, xs[j]? = some x → I (i + j) s → Conv (f (i + j : Nat) s) (g (i + j) x s) ∧ ∀ s', g (i + j) x s = .inl s' → I (i + j + 1) s') →
      ∃ N, ∀ n, N ≤ n → forN hi fin f n xs.length i s = some (run g fin i xs s)
  | [], i, s, hh, _, _ => ⟨0, fun n _ => by
      have : ¬ (i : Int) < hi := by rw [hh]; simp
      simp [forN, run, this]⟩
  | x :: xs, i, s, hh, h0, H => by
    have hlt : (i : Int) < hi := by rw [hh]; simp; omega
    obtain ⟨⟨N, hN⟩, hI⟩ := H 0 x s rfl h0
    simp only [Nat.add_zero] at hN hI
    cases hg : g i x s with
    | inl s' =>
      have hi' := hI s' hg
      obtain ⟨N', hN'⟩ := Conv_forN (l := l) g fin I hi xs (i + 1) s' (by rw [hh, List.length_cons]; congr 1; omega) hi' (fun j y s hy hIs => by
        have := H (j + 1) y s (by simpa using hy) (by rw [← Nat.add_assoc, Nat.add_right_comm]; exact hIs)
        rw [show i + (j + 1) = i + 1 + j by omega] at this
        exact this)
      refine ⟨max N N', fun n hn => ?_⟩
      have h1 := hN n (by omega)
      rw [hg] at h1
      simp only [List.length_cons, forN, hlt, decide_true, cond_true, h1, run, hg]
      have := hN' n (by omega)
      simpa using this
    | inr r =>
      refine ⟨N, fun n hn => ?_⟩
      have h1 := hN n hn
      rw [hg] at h1
      simp only [List.length_cons, forN, hlt, decide_true, cond_true, h1, run, hg]
/-- a loop over a list, with an invariant -/
theorem Conv_forI {l : List α} {f : Int → σ → M (σ ⊕ ρ)} {fin : σ → ρ} {s : σ} (g : Nat → α → σ → σ ⊕ ρ) (I : Nat → σ → Prop) (hl : l.length ≤ 9223372036854775807) (h0 : I 0 s)
    (H : ∀ (i : Nat) x s, l[i]? = some x → I i s → Conv (f i s) (g i x s) ∧ ∀ s', g i x s = .inl s' → I (i + 1) s') : Conv (forI 0 (l.length : Int) fin f s) (run g fin 0 l s) := by
  obtain ⟨N, hN⟩ := Conv_forN (l := l) (f := f) g fin I (l.length : Int) l 0 s (by simp) h0 (fun j x s hx hI => by simpa using H j x s hx (by simpa using hI))
  refine ⟨N, fun n hn => ?_⟩
  have h1 : (l.length : Int) ≤ 9223372036854775807 := by omega
  simp only [forI, h1, decide_true, Bool.and_true, show (-9223372036854775808 : Int) ≤ 0 by decide, cond_true]
  have := hN n hn
  simpa using this
/-- .. without one -/
theorem Conv_forL {l : List α} {f : Int → σ → M (σ ⊕ ρ)} {fin : σ → ρ} {s : σ} (g : Nat → α → σ → σ ⊕ ρ) (hl : l.length ≤ 9223372036854775807)
    (H : ∀ (i : Nat) x s, l[i]? = some x → Conv (f i s) (g i x s)) : Conv (forI 0 (l.length : Int) fin f s) (run g fin 0 l s) :=
  Conv_forI g (fun _ _ => True) hl trivial fun i x s hx _ => ⟨H i x s hx, fun _ _ => trivial⟩
theorem Conv.of {m : M α} {r r' : α} (h : Conv m r) (e : r = r') : Conv m r' := e ▸ h
theorem Conv_ite {b : Bool} {x y : M α} {r : α} (h1 : b = true → Conv x r) (h2 : b = false → Conv y r) : Conv (ite b x y) r := by
  cases b
  · exact h2 rfl
  · exact h1 rfl
theorem Conv_ite2 {b : Bool} {x y : M α} {r s : α} (h1 : b = true → Conv x r) (h2 : b = false → Conv y s) : Conv (ite b x y) (bif b then r else s) := by
  cases b
  · exact h2 rfl
  · exact h1 rfl
theorem Conv_guard {b : Bool} (h : b = true) : Conv (guard b) () := ⟨0, fun _ _ => by simp [guard, h]⟩
theorem Conv_upd {l : List α} {i : Nat} {x : α} (h : i < l.length) : Conv (upd l i x) (l.set i x) := ⟨0, fun _ _ => by simp [upd, h]⟩
theorem Conv_get {l : List α} {i : Int} {x : α} (h0 : 0 ≤ i) (h : l[i.toNat]? = some x) : Conv (idx l i) x := ⟨0, fun _ _ => by simp [idx, h0, h]⟩
/-- a value told in both ways of a test, then the rest -/
theorem Conv_bite {b : Bool} {x y : M α} {f : α → M β} {u v : α} {r : β} (h1 : b = true → Conv x u) (h2 : b = false → Conv y v) (g : Conv (f (bif b then u else v)) r) : Conv (bind (ite b x y) f) r :=
  Conv_bind (Conv_ite2 h1 h2) g

/-! searches: a loop that leaves at the first element of a kind -/
theorem run_all (p : α → Bool) (u : Unit ⊕ ρ) : ∀ (i : Nat) (l : List α), run (ρ := Unit ⊕ ρ) (fun _ x _ => bif p x then .inl () else .inr u) (fun s => .inl s) i l () = bif l.all p then .inl () else u
  | _, [] => rfl
  | i, x :: xs => by
    simp only [run, List.all_cons]
    cases p x
    · rfl
    · simpa using run_all p u (i + 1) xs
/-- 'for .. if not p x, return v' -/
theorem Conv_all {l : List α} {f : Int → Unit → M (Unit ⊕ (Unit ⊕ ρ))} (p : α → Bool) (v : ρ) (hl : l.length ≤ 9223372036854775807) (H : ∀ (i : Nat) x, l[i]? = some x → Conv (f i ()) (bif p x then .inl () else .inr (.inr v))) :
    Conv (forI 0 (l.length : Int) (fun s => .inl s) f ()) (bif l.all p then .inl () else .inr v) :=
  (Conv_forL (fun _ x _ => bif p x then .inl () else .inr (.inr v)) hl fun i x _ hx => H i x hx).of (run_all p (.inr v) 0 l)
/-- the same, where the element's place matters to the test -/
theorem run_allI (p : Nat → α → Bool) (u : Unit ⊕ ρ) : ∀ (i : Nat) (l : List α), run (ρ := Unit ⊕ ρ) (fun j x _ => bif p j x then .inl () else .inr u) (fun s => .inl s) i l () = bif (l.zipIdx i).all (fun q => p q.2 q.1) then .inl () else u
  | _, [] => rfl
  | i, x :: xs => by
    simp only [run, List.zipIdx_cons, List.all_cons]
    cases p i x
    · rfl
    · simpa using run_allI p u (i + 1) xs
theorem Conv_allI {l : List α} {f : Int → Unit → M (Unit ⊕ (Unit ⊕ ρ))} (p : Nat → α → Bool) (v : ρ) (hl : l.length ≤ 9223372036854775807) (H : ∀ (i : Nat) x, l[i]? = some x → Conv (f i ()) (bif p i x then .inl () else .inr (.inr v))) :
    Conv (forI 0 (l.length : Int) (fun s => .inl s) f ()) (bif (l.zipIdx 0).all (fun q => p q.2 q.1) then .inl () else .inr v) :=
  (Conv_forL (fun j x _ => bif p j x then .inl () else .inr (.inr v)) hl fun i x _ hx => H i x hx).of (run_allI p (.inr v) 0 l)
/-- 'for i .. if p x, return i' -/
theorem run_find (p : α → Bool) : ∀ (i : Nat) (l : List α), run (σ := Unit) (ρ := Unit ⊕ Int) (fun j x _ => bif p x then .inr (.inr (j : Int)) else .inl ()) (fun s => .inl s) i l () = match l.findIdx? p with
    | some j => .inr ((i + j : Nat) : Int)
    | none => .inl ()
  | _, [] => rfl
  | i, x :: xs => by
    simp only [run, List.findIdx?_cons]
    cases hp : p x
    · simp only [cond_false, run_find p (i + 1) xs, Bool.false_eq_true, if_false]
      cases xs.findIdx? p with
      | none => rfl
      | some j => simp only [Option.map_some]; congr 2; omega
    · simp
theorem Conv_find {l : List α} {f : Int → Unit → M (Unit ⊕ (Unit ⊕ Int))} (p : α → Bool) (hl : l.length ≤ 9223372036854775807) (H : ∀ (i : Nat) x, l[i]? = some x → Conv (f i ()) (bif p x then .inr (.inr (i : Int)) else .inl ())) :
    Conv (forI 0 (l.length : Int) (fun s => .inl s) f ()) (match l.findIdx? p with | some j => .inr (j : Int) | none => .inl ()) :=
  (Conv_forL (fun j x _ => bif p x then .inr (.inr (j : Int)) else .inl ()) hl fun i x _ hx => H i x hx).of (by rw [run_find]; simp)
/-- sums: each round turns what has been gathered -/
theorem run_fold (g : σ → α → σ) : ∀ (i : Nat) (l : List α) (s : σ), run (fun _ x s => .inl (g s x)) (fun s => s) i l s = l.foldl g s
  | _, [], _ => rfl
  | i, x :: xs, s => by simpa [run] using run_fold g (i + 1) xs (g s x)
theorem Conv_fold {l : List α} {f : Int → σ → M (σ ⊕ σ)} {s : σ} (g : σ → α → σ) (hl : l.length ≤ 9223372036854775807) (H : ∀ (i : Nat) x s, l[i]? = some x → Conv (f i s) (.inl (g s x))) :
    Conv (forI 0 (l.length : Int) (fun s => s) f s) (l.foldl g s) :=
  (Conv_forL (fun _ x s => .inl (g s x)) hl fun i x s hx => H i x s hx).of (run_fold g 0 l s)
theorem get_set_append {l r : List α} {x y : α} : (l ++ y :: r).set l.length x = l ++ x :: r := by simp
/-- a loop that fills a list of the same length, element by element -/
theorem run_fill (g : Nat → α → β) (z : β) : ∀ (i : Nat) (l : List α) (d : List β), d.length = i →
    run (fun j x s => .inl (s.set j (g j x))) (fun s => s) i l (d ++ List.replicate l.length z) = d ++ (l.zipIdx i).map (fun q => g q.2 q.1)
  | _, [], d, _ => by simp [run]
  | i, x :: xs, d, hd => by
    subst hd
    simp only [run, List.length_cons, List.replicate_succ, get_set_append]
    have := run_fill g z (d.length + 1) xs (d ++ [g d.length x]) (by simp)
    simp only [List.append_assoc, List.singleton_append] at this
    rw [this]
    simp
theorem Conv_fill {l : List α} {f : Int → List β → M (List β ⊕ List β)} (g : Nat → α → β) (z : β) (hl : l.length ≤ 9223372036854775807)
    (H : ∀ (i : Nat) x s, l[i]? = some x → s.length = l.length → Conv (f i s) (.inl (s.set i (g i x)))) :
    Conv (forI 0 (l.length : Int) (fun s => s) f (List.replicate l.length z)) ((l.zipIdx 0).map (fun q => g q.2 q.1)) := by
  refine (Conv_forI (fun j x s => .inl (s.set j (g j x))) (fun _ s => s.length = l.length) hl (by simp) fun i x s hx hI => ⟨H i x s hx hI, fun s' e => ?_⟩).of ?_
  · cases e; simpa using hI
  · simpa using run_fill g z 0 l [] rfl
theorem zipIdx_map_fst {l : List α} {g : α → β} {i : Nat} : ((l.zipIdx i).map fun q => g q.1) = l.map g := by
  have h : List.map (g ∘ Prod.fst) (l.zipIdx i) = List.map g l := by rw [← List.map_map, List.zipIdx_map_fst]
  exact h
theorem findIdx_any {l : List α} {p : α → Bool} : (decide ((0:Int) ≤ match l.findIdx? p with | some j => (j : Int) | none => -1)) = l.any p := by
  cases h : l.findIdx? p with
  | none => rw [List.findIdx?_eq_none_iff] at h; simp; exact fun x hx => by simpa using h x hx
  | some j =>
    obtain ⟨hj, hp, _⟩ := List.findIdx?_eq_some_iff_getElem.1 h
    simp
    exact ⟨_, List.getElem_mem hj, hp⟩
end M
def finB (x : Int) : Bool := decide (-1000000 ≤ x) && decide (x ≤ 1000000)
def valB (x : Int) : Bool := x == (-1000000000000000) || finB x
theorem toInt64S_ok {a : List Int} (h : a.length ≤ 1099511627776) : M.Conv (laws_toInt64S a) a := by
  unfold laws_toInt64S
  refine M.Conv_bind (M.Conv_make (by omega) (by omega)) ?_
  refine M.Conv_bind (x := a) (((M.Conv_fill (l := a) (f := _) (fun _ x => x) 0 (by omega) fun i x s hx hs => ?_)).of ?_) (M.Conv_ret _)
  · have hi := (List.getElem?_eq_some_iff.1 hx).1
    refine M.Conv_bind (M.Conv_get (by omega) (by simpa using hx)) ?_
    refine M.Conv_bind (M.Conv_get (x := s[i]) (by omega) (by simp [show i < s.length by omega])) ?_
    exact M.Conv_bind (M.Conv_upd (by omega)) (M.Conv_ret _)
  · exact M.zipIdx_map_fst.trans (List.map_id' _)
theorem eqInt64S_ok {a b : List Int} (ha : a.length ≤ 9223372036854775807) : M.Conv (laws_eqInt64S a b) (decide (a = b)) := by
  unfold laws_eqInt64S
  refine M.Conv_ite (fun h => ?_) (fun h => ?_)
  · have : a ≠ b := by rintro rfl; simp at h
    rw [decide_eq_false this]; exact M.Conv_ret _
  · have hl : a.length = b.length := Int.ofNat.inj (by simpa using h)
    refine M.Conv_bind (M.Conv_allI (fun i x => b[i]? == some x) false ha fun i x hx => ?_) ?_
    · have hi := (List.getElem?_eq_some_iff.1 hx).1
      refine M.Conv_bind (M.Conv_get (by omega) (by simpa using hx)) ?_
      refine M.Conv_bind (M.Conv_get (x := b[i]) (by omega) (by simp [show i < b.length by omega])) ?_
      have hb : (b[i]? == some x) = !(x != b[i]) := by rw [List.getElem?_eq_getElem (by omega), bne, Bool.not_not, Option.some_beq_some, BEq.comm]
      rw [hb]
      cases (x != b[i]) <;> exact M.Conv_ret _
    · have key : ((a.zipIdx 0).all fun q => b[q.2]? == some q.1) = decide (a = b) := by
        by_cases e : a = b
        · subst e
          rw [decide_eq_true rfl, List.all_eq_true]
          rintro ⟨x, i⟩ hq
          have := List.mk_mem_zipIdx_iff_getElem?.1 hq
          simp [this]
        · rw [decide_eq_false e, Bool.eq_false_iff]
          intro h
          apply e
          rw [List.all_eq_true] at h
          refine List.ext_getElem hl fun i h1 h2 => ?_
          have := h (a[i], i) (List.mk_mem_zipIdx_iff_getElem?.2 (List.getElem?_eq_getElem h1))
          simp [h2] at this
          exact this.symm
      rw [key]
      cases decide (a = b) <;> exact M.Conv_ret _
theorem spec_l01In_ok (x lo hi : Int) : M.Conv (spec_l01In x lo hi) (decide (lo ≤ x) && decide (x ≤ hi)) := M.Conv_ret _
theorem spec_l01Finite_ok (x : Int) : M.Conv (spec_l01Finite x) (finB x) := M.Conv_bind (spec_l01In_ok _ _ _) (M.Conv_ret _)
theorem spec_IsValue_ok (x : Int) : M.Conv (spec_IsValue x) (valB x) := by
  unfold spec_IsValue
  refine M.Conv_bind (M.Conv_ite (r := valB x) (fun h => ?_) (fun h => ?_)) (M.Conv_ret _)
  · simp only [valB, h, Bool.true_or]; exact M.Conv_ret _
  · simp only [valB, h, Bool.false_or]; exact M.Conv_bind (spec_l01Finite_ok x) (M.Conv_ret _)
theorem spec_l01All_ok {l : List Int} (f : Bool) (hl : l.length ≤ 9223372036854775807) : M.Conv (spec_l01All l f) (l.all fun x => valB x && !(f && x == (-1000000000000000))) := by
  unfold spec_l01All
  refine M.Conv_bind (M.Conv_all (fun x => valB x && !(f && x == (-1000000000000000))) false hl fun i x hx => ?_) ?_
  · refine M.Conv_bind (M.Conv_get (by omega) (by simpa using hx)) (M.Conv_bind (spec_IsValue_ok x) ?_)
    refine M.Conv_bind (x := !(valB x && !(f && x == (-1000000000000000)))) (M.Conv_ite (fun h => ?_) (fun h => ?_)) ?_
    · simp at h; simp [h]; exact M.Conv_ret _
    · simp at h
      refine M.Conv_bind (x := (f && x == (-1000000000000000))) (M.Conv_ite (fun h => ?_) (fun h => ?_)) (by simp [h]; exact M.Conv_ret _)
      · simp [h]; exact M.Conv_bind (M.Conv_get (by omega) (by simpa using hx)) (M.Conv_ret _)
      · simp [h]; exact M.Conv_ret _
    · cases (valB x && !(f && x == (-1000000000000000))) <;> exact M.Conv_ret _
  · cases (l.all fun x => valB x && !(f && x == (-1000000000000000))) <;> exact M.Conv_ret _
theorem impl_within_ok (x lo hi : Int) : M.Conv (impl_within x lo hi) (decide (lo ≤ x) && decide (x ≤ hi)) := M.Conv_ret _
theorem impl_isFinite_ok (x : Int) : M.Conv (impl_isFinite x) (finB x) := M.Conv_bind (impl_within_ok _ _ _) (M.Conv_ret _)
theorem impl_IsValue_ok (x : Int) : M.Conv (impl_IsValue x) (valB x) := by
  unfold impl_IsValue
  refine M.Conv_bind (M.Conv_ite (r := valB x) (fun h => ?_) (fun h => ?_)) (M.Conv_ret _)
  · simp only [valB, h, Bool.true_or]; exact M.Conv_ret _
  · simp only [valB, h, Bool.false_or]; exact M.Conv_bind (impl_isFinite_ok x) (M.Conv_ret _)
/-- 'slices.ContainsFunc', behind 'slices.IndexFunc' -/
theorem contains_ok {α : Type} {l : List α} {f : Int → Unit → M (Unit ⊕ (Unit ⊕ Int))} (p : α → Bool) (hl : l.length ≤ 9223372036854775807) (H : ∀ (i : Nat) x, l[i]? = some x → M.Conv (f i ()) (bif p x then .inr (.inr (i : Int)) else .inl ())) :
    M.Conv (M.bind (M.bind (M.forI 0 (l.length : Int) (fun s => .inl s) f ()) (fun x1 => M.cont x1 (fun _ => M.ret (-1)) (fun r => M.ret r))) (fun x1 => M.ret (decide (0 ≤ x1)))) (l.any p) := by
  rw [← M.findIdx_any]
  refine M.Conv_bind (M.Conv_bind (M.Conv_find p hl H) ?_) (M.Conv_ret _)
  cases l.findIdx? p <;> exact M.Conv_ret _
theorem any_not {α : Type} {l : List α} {p : α → Bool} : (!l.any fun x => !p x) = l.all p := by
  induction l with
  | nil => rfl
  | cons x xs ih => simp only [List.any_cons, List.all_cons, Bool.not_or, Bool.not_not, ih]
theorem impl_areValues_ok {l : List Int} (hl : l.length ≤ 9223372036854775807) : M.Conv (impl_areValues l) (l.all valB) := by
  unfold impl_areValues slices_ContainsFunc_int_F_impl_areValues_1 slices_IndexFunc_int_F_impl_areValues_1
  refine M.Conv_bind (contains_ok (fun x => !valB x) hl fun i x hx => ?_) ((M.Conv_ret _).of any_not)
  refine M.Conv_bind (M.Conv_get (by omega) (by simpa using hx)) ?_
  refine M.Conv_bind (x := !valB x) (M.Conv_bind (impl_IsValue_ok x) (M.Conv_ret _)) ?_
  cases valB x <;> exact M.Conv_ret _
/-- the greatest of a list; Bottom if there is none -/
def maxL (l : List Int) : Int := l.foldl mx (-1000000000000000)
theorem impl_sumOf_ok {l : List Int} (hl : l.length ≤ 9223372036854775807) : M.Conv (impl_sumOf l) (maxL l) := by
  unfold impl_sumOf
  refine M.Conv_bind (M.Conv_fold mx hl fun i x s hx => ?_) (M.Conv_ret _)
  exact M.Conv_bind (M.Conv_get (by omega) (by simpa using hx)) (M.Conv_ret _)
theorem mx_eq (a b : Int) : mx a b = max a b := by unfold mx; split <;> omega
theorem foldl_mx_ge (l : List Int) (s : Int) : s ≤ l.foldl mx s := by
  induction l generalizing s with
  | nil => exact Int.le_refl _
  | cons x xs ih => exact Int.le_trans (by rw [mx_eq]; omega) (ih (mx s x))
theorem foldl_mx_mem {l : List Int} {s x : Int} (h : x ∈ l) : x ≤ l.foldl mx s := by
  induction l generalizing s with
  | nil => cases h
  | cons y ys ih =>
    rcases List.mem_cons.1 h with rfl | h
    · exact Int.le_trans (by rw [mx_eq]; omega) (foldl_mx_ge ys (mx s x))
    · exact ih h
theorem foldl_mx_in (l : List Int) (s : Int) : l.foldl mx s = s ∨ l.foldl mx s ∈ l := by
  induction l generalizing s with
  | nil => exact .inl rfl
  | cons y ys ih =>
    rcases ih (mx s y) with h | h
    · rw [List.foldl_cons, h, mx_eq]
      by_cases e : s ≤ y
      · right; rw [show max s y = y by omega]; exact List.mem_cons_self
      · left; omega
    · exact .inr (List.mem_cons_of_mem _ h)
theorem valB_ge {x : Int} (h : valB x = true) : -1000000000000000 ≤ x := by
  simp [valB, finB] at h; omega
theorem maxL_ne {l : List Int} (h : l.all valB = true) : (maxL l != (-1000000000000000)) = l.any (· != (-1000000000000000)) := by
  rw [List.all_eq_true] at h
  rw [Bool.eq_iff_iff, List.any_eq_true]
  constructor
  · intro hne
    rcases foldl_mx_in l (-1000000000000000) with e | e
    · simp [maxL, e] at hne
    · exact ⟨_, e, hne⟩
  · rintro ⟨x, hx, hne⟩
    have h1 := foldl_mx_mem (s := -1000000000000000) hx
    have h2 := valB_ge (h x hx)
    have hne : x ≠ -1000000000000000 := by simpa using hne
    have : maxL l ≠ -1000000000000000 := by unfold maxL; omega
    simpa using this
/-- a polynomial: up to twelve values, not all of them Bottom -/
def polyB (c : List Int) : Bool := decide (c.length ≤ 12) && c.all valB && c.any (· != (-1000000000000000))
theorem spec_IsPolynomial_ok {c : List Int} (hl : c.length ≤ 9223372036854775807) : M.Conv (spec_IsPolynomial c) (polyB c) := by
  unfold spec_IsPolynomial polyB
  refine M.Conv_bind (x := !(decide (c.length ≤ 12) && c.all valB)) (M.Conv_ite (fun h => ?_) (fun h => ?_)) ?_
  · have h := of_decide_eq_true h
    rw [decide_eq_false (by omega)]; exact M.Conv_ret _
  · have h := of_decide_eq_false h
    rw [decide_eq_true (by omega)]
    refine M.Conv_bind (spec_l01All_ok false hl) ((M.Conv_ret _).of ?_)
    simp
  · cases (decide (c.length ≤ 12) && c.all valB)
    · exact M.Conv_ret _
    · refine M.Conv_bind (M.Conv_all (fun x => x == (-1000000000000000)) true hl fun i x hx => ?_) ?_
      · refine M.Conv_bind (M.Conv_get (by omega) (by simpa using hx)) ?_
        simp only [bne]
        cases (x == (-1000000000000000)) <;> exact M.Conv_ret _
      · have : (c.all fun x => x == (-1000000000000000)) = !c.any (· != (-1000000000000000)) := by rw [← any_not]; rfl
        rw [this]
        cases c.any (· != (-1000000000000000)) <;> exact M.Conv_ret _
theorem impl_IsPolynomial_ok {c : List Int} (hl : c.length ≤ 9223372036854775807) : M.Conv (impl_IsPolynomial c) (polyB c) := by
  unfold impl_IsPolynomial polyB
  refine M.Conv_bind (impl_within_ok _ _ _) ?_
  by_cases h0 : c = []
  · subst h0; exact M.Conv_bind (x := false) (M.Conv_ret _) (M.Conv_bind (x := false) (M.Conv_ret _) (M.Conv_ret _))
  have hp : 0 < c.length := List.length_pos_iff.2 h0
  refine M.Conv_bind (x := decide (c.length ≤ 12) && c.all valB) (M.Conv_ite (fun h => ?_) (fun h => ?_)) ?_
  · simp at h
    rw [decide_eq_true (by omega)]; exact M.Conv_bind (impl_areValues_ok hl) ((M.Conv_ret _).of (by simp))
  · simp at h
    rw [decide_eq_false (by omega)]; exact M.Conv_ret _
  · refine M.Conv_bind (x := (decide (c.length ≤ 12) && c.all valB) && c.any (· != (-1000000000000000))) (M.Conv_ite (fun h => ?_) (fun h => ?_)) (M.Conv_ret _)
    · have h2 := (Bool.and_eq_true _ _ ▸ h).2
      rw [h]
      exact M.Conv_bind (impl_sumOf_ok hl) ((M.Conv_ret _).of (by rw [maxL_ne h2]; simp))
    · rw [h]; exact M.Conv_ret _
def smI (l : List Int) : Prop := l.length ≤ 1099511627776
theorem toI_ok {a : List Int} (h : smI a) : M.Conv (laws_toInt64S a) a := toInt64S_ok h
theorem eqI_refl {a : List Int} (h : smI a) : M.Conv (laws_eqInt64S a a) true := (eqInt64S_ok (by unfold smI at h; omega)).of (by simp)
/-- marks: element i becomes e (k + w * i) -/
theorem Conv_mark {α : Type} {l : List α} {f : Int → List α × Int → M ((List α × Int) ⊕ (List α × Int))} (w : Int) (e : Int → α) (k : Int) (hl : l.length ≤ 9223372036854775807)
    (H : ∀ (i : Nat) (s : List α), i < l.length → s.length = l.length → M.Conv (f i (s, k + w * i)) (.inl (s.set i (e (k + w * i)), k + w * (i + 1)))) :
    M.Conv (M.forI 0 (l.length : Int) (fun s => s) f (l, k)) ((List.range l.length).map (fun (i : Nat) => e (k + w * i)), k + w * l.length) := by
  refine (M.Conv_forI (l := l) (fun i _ s => .inl (s.1.set i (e (k + w * i)), k + w * (i + 1))) (fun i s => s.1.length = l.length ∧ s.2 = k + w * i) hl ⟨rfl, by simp⟩ fun i x s hx hI => ?_).of ?_
  · obtain ⟨s, q⟩ := s
    obtain ⟨h1, h2⟩ := hI
    simp only at h1 h2
    subst h2
    refine ⟨H i s (List.getElem?_eq_some_iff.1 hx).1 h1, fun s' es => ?_⟩
    cases es
    exact ⟨by simpa using h1, by simp⟩
  · have key : ∀ (xs : List α) (i : Nat) (d : List α), d.length = i → M.run (ρ := List α × Int) (fun i _ s => .inl (s.1.set i (e (k + w * i)), k + w * ((i : Int) + 1))) (fun s => s) i xs (d ++ xs, k + w * i) = (d ++ (List.range xs.length).map (fun (j : Nat) => e (k + w * (i + j : Nat))), k + w * (i + xs.length : Nat)) := by
      intro xs
      induction xs with
      | nil => intro i d hd; simp [M.run]
      | cons x xs ih =>
        intro i d hd
        subst hd
        simp only [M.run]
        have := ih (d.length + 1) (d ++ [e (k + w * d.length)]) (by simp)
        rw [show (d ++ x :: xs).set d.length (e (k + w * d.length)) = d ++ [e (k + w * d.length)] ++ xs by simp]
        rw [show ((d.length : Int) + 1) = ((d.length + 1 : Nat) : Int) by omega, this]
        simp only [List.length_cons, List.range_succ_eq_map, List.map_cons, List.map_map, List.append_assoc, List.singleton_append, Prod.mk.injEq, List.append_cancel_left_eq, List.cons.injEq]
        refine ⟨⟨by simp, List.map_congr_left fun j _ => ?_⟩, by congr 2; omega⟩
        simp only [Function.comp]
        congr 3; omega
    have := key l 0 [] rfl
    simpa using this
theorem Conv_held {α : Type} {l : List α} {f : Int → Int → M (Int ⊕ (Int ⊕ Int))} (w k : Int) (hl : l.length ≤ 9223372036854775807) (H : ∀ (i : Nat) x, l[i]? = some x → M.Conv (f i (k + w * i)) (.inl (k + w * (i + 1)))) :
    M.Conv (M.forI 0 (l.length : Int) (fun s => .inl s) f k) (.inl (k + w * l.length)) := by
  refine (M.Conv_forI (l := l) (fun i _ _ => .inl (k + w * (i + 1))) (fun i s => s = k + w * i) hl (by simp) fun i x s hx hI => ?_).of ?_
  · subst hI
    exact ⟨H i x hx, fun s' es => by cases es; simp⟩
  · have key : ∀ (xs : List α) (i : Nat), M.run (σ := Int) (ρ := Int ⊕ Int) (fun i _ _ => .inl (k + w * ((i : Int) + 1))) (fun s => .inl s) i xs (k + w * i) = .inl (k + w * (i + xs.length : Nat)) := by
      intro xs
      induction xs with
      | nil => intro i; simp [M.run]
      | cons x xs ih =>
        intro i
        simp only [M.run, List.length_cons]
        rw [show ((i : Int) + 1) = ((i + 1 : Nat) : Int) by omega, ih (i + 1)]
        congr 3; omega
    have := key l 0
    simpa using this
theorem markI_ok {a : List Int} (h : smI a) (k : Int) (h0 : 0 ≤ k) (hk : k ≤ 2305843009213693952) :
    ∃ (k' : Int) (a' : List Int), M.Conv (laws_markInt64S a k) (k', a') ∧ k ≤ k' ∧ k' ≤ k + 1099511627776 ∧ a'.length = a.length ∧ M.Conv (laws_heldInt64S a' k) k' := by
  unfold smI at h
  refine ⟨k + 1 * a.length, (List.range a.length).map (fun (i : Nat) => k + 1 * (i : Int)), ?_, by omega, by omega, by simp, ?_⟩
  · unfold laws_markInt64S
    refine M.Conv_bind (Conv_mark 1 (fun x => x) k (by omega) fun i s hi hs => ?_) (M.Conv_ret _)
    refine M.Conv_bind (M.Conv_get (x := s[i]) (by omega) (by simp [show i < s.length by omega])) (M.Conv_bind (M.Conv_upd (show i < s.length by omega)) ((M.Conv_ret _).of ?_))
    rw [w64_eq _ (by omega)]
    congr 2; omega
  · unfold laws_heldInt64S
    have hl : ((List.range a.length).map fun i : Nat => k + 1 * (i : Int)).length = a.length := by simp
    refine M.Conv_bind (Conv_held 1 k (by rw [hl]; omega) fun i x hx => ?_) ((M.Conv_ret _).of (by rw [hl]))
    have hi := (List.getElem?_eq_some_iff.1 hx).1
    rw [hl] at hi
    have ex : x = k + 1 * i := by simp [hi] at hx; omega
    refine M.Conv_bind (M.Conv_get (by omega) (by simpa using hx)) (M.Conv_ite (fun q => by simp [ex] at q) (fun _ => (M.Conv_ret _).of ?_))
    rw [w64_eq _ (by omega)]
    congr 1; omega

theorem finB_bd {x : Int} (h : finB x = true) : -1000000 ≤ x ∧ x ≤ 1000000 := by simpa [finB] using h
theorem val_ne {x : Int} (h : valB x = true) (hn : (x == (-1000000000000000)) = false) : finB x = true := by simpa [valB, hn] using h
/-- two programs, one answer -/
def Two {α : Type} (m m' : M α) (Post : α → Prop) : Prop := ∃ r, M.Conv m r ∧ M.Conv m' r ∧ Post r
theorem Two.mk {α : Type} {m m' : M α} {Post : α → Prop} {r : α} (h : M.Conv m r) (h' : M.Conv m' r) (p : Post r) : Two m m' Post := ⟨r, h, h', p⟩
theorem Two.ret {α : Type} {Post : α → Prop} (r : α) (p : Post r) : Two (M.ret r) (M.ret r) Post := ⟨r, M.Conv_ret _, M.Conv_ret _, p⟩
theorem Two.bind {α β : Type} {m m' : M α} {f f' : α → M β} {P : α → Prop} {Q : β → Prop} (h : Two m m' P) (g : ∀ x, P x → Two (f x) (f' x) Q) : Two (M.bind m f) (M.bind m' f') Q := by
  obtain ⟨x, h1, h2, p⟩ := h
  obtain ⟨r, g1, g2, q⟩ := g x p
  exact ⟨r, M.Conv_bind h1 g1, M.Conv_bind h2 g2, q⟩
theorem Two.bindC {α α' β : Type} {m : M α} {m' : M α'} {f : α → M β} {f' : α' → M β} {Q : β → Prop} {x : α} {x' : α'} (h : M.Conv m x) (h' : M.Conv m' x') (g : Two (f x) (f' x') Q) : Two (M.bind m f) (M.bind m' f') Q := by
  obtain ⟨r, g1, g2, q⟩ := g
  exact ⟨r, M.Conv_bind h g1, M.Conv_bind h' g2, q⟩
theorem Two.left {α β : Type} {m : M α} {m' : M β} {f : α → M β} {Q : β → Prop} {x : α} (h : M.Conv m x) (g : Two (f x) m' Q) : Two (M.bind m f) m' Q := by
  obtain ⟨r, g1, g2, q⟩ := g
  exact ⟨r, M.Conv_bind h g1, g2, q⟩
theorem Two.right {α β : Type} {m : M α} {m' : M β} {f : α → M β} {Q : β → Prop} {x : α} (h : M.Conv m x) (g : Two m' (f x) Q) : Two m' (M.bind m f) Q := by
  obtain ⟨r, g1, g2, q⟩ := g
  exact ⟨r, g1, M.Conv_bind h g2, q⟩
theorem Two.ite {α : Type} {b : Bool} {x y x' y' : M α} {Q : α → Prop} (h1 : b = true → Two x x' Q) (h2 : b = false → Two y y' Q) : Two (M.ite b x y) (M.ite b x' y') Q := by
  cases b
  · exact h2 rfl
  · exact h1 rfl
theorem Two.iteL {α : Type} {b : Bool} {x y m' : M α} {Q : α → Prop} (h1 : b = true → Two x m' Q) (h2 : b = false → Two y m' Q) : Two (M.ite b x y) m' Q := by
  cases b
  · exact h2 rfl
  · exact h1 rfl
theorem Two.iteR {α : Type} {b : Bool} {x y m' : M α} {Q : α → Prop} (h1 : b = true → Two m' x Q) (h2 : b = false → Two m' y Q) : Two m' (M.ite b x y) Q := by
  cases b
  · exact h2 rfl
  · exact h1 rfl
theorem two_forN {σ ρ : Type} {hi : Int} {fin : σ → ρ} {f f' : Int → σ → M (σ ⊕ ρ)} {Post : ρ → Prop} (I : Int → σ → Prop) (lo : Int)
    (round : ∀ i s, lo ≤ i → i < hi → I i s → Two (f i s) (f' i s) fun y => (∃ s', y = .inl s' ∧ I (i + 1) s') ∨ (∃ r, y = .inr r ∧ Post r)) :
    ∀ (d : Nat) (i : Int) (s : σ), (hi - i).toNat = d → lo ≤ i → (i ≤ hi ∨ i = lo) → I i s → (∀ i s, (i = hi ∨ i = lo ∧ hi ≤ lo) → I i s → Post (fin s)) → ∃ r, (∃ N, ∀ n, N ≤ n → M.forN hi fin f n d i s = some r) ∧ (∃ N, ∀ n, N ≤ n → M.forN hi fin f' n d i s = some r) ∧ Post r
  | 0, i, s, hd, h1, h2, hI, fi => by
    have hge : ¬ i < hi := by omega
    exact ⟨fin s, ⟨0, fun n _ => by simp [M.forN, hge]⟩, ⟨0, fun n _ => by simp [M.forN, hge]⟩, fi i s (by omega) hI⟩
  | d + 1, i, s, hd, h1, h2, hI, fi => by
    have hlt : i < hi := by omega
    obtain ⟨y, ⟨N, hy⟩, ⟨N', hy'⟩, hc⟩ := round i s h1 hlt hI
    rcases hc with ⟨s', rfl, hI'⟩ | ⟨r, rfl, hp⟩
    · obtain ⟨r, ⟨N1, h3⟩, ⟨N2, h4⟩, hp⟩ := two_forN (fin := fin) I lo round d (i + 1) s' (by omega) (by omega) (by omega) hI' fi
      exact ⟨r, ⟨max N N1, fun n hn => by simp [M.forN, hlt, hy n (by omega), h3 n (by omega)]⟩, ⟨max N' N2, fun n hn => by simp [M.forN, hlt, hy' n (by omega), h4 n (by omega)]⟩, hp⟩
    · exact ⟨r, ⟨N, fun n hn => by simp [M.forN, hlt, hy n hn]⟩, ⟨N', fun n hn => by simp [M.forN, hlt, hy' n hn]⟩, hp⟩
theorem Two.for {σ ρ : Type} {lo hi : Int} {fin : σ → ρ} {f f' : Int → σ → M (σ ⊕ ρ)} {s : σ} {Post : ρ → Prop} (I : Int → σ → Prop) (hlo : -9223372036854775808 ≤ lo) (hhi : hi ≤ 9223372036854775807) (h0 : I lo s)
    (round : ∀ i s, lo ≤ i → i < hi → I i s → Two (f i s) (f' i s) fun y => (∃ s', y = .inl s' ∧ I (i + 1) s') ∨ (∃ r, y = .inr r ∧ Post r)) (done : ∀ i s, (i = hi ∨ i = lo ∧ hi ≤ lo) → I i s → Post (fin s)) :
    Two (M.forI lo hi fin f s) (M.forI lo hi fin f' s) Post := by
  obtain ⟨r, ⟨N, h1⟩, ⟨N', h2⟩, hp⟩ := two_forN (fin := fin) I lo round _ lo s rfl (Int.le_refl _) (.inr rfl) h0 done
  exact ⟨r, ⟨N, fun n hn => by simp [M.forI, hlo, hhi, h1 n hn]⟩, ⟨N', fun n hn => by simp [M.forI, hlo, hhi, h2 n hn]⟩, hp⟩
theorem polyB_len {c : List Int} (h : polyB c = true) : c.length ≤ 12 ∧ c.all valB = true ∧ c.any (· != (-1000000000000000)) = true := by
  simp only [polyB, Bool.and_eq_true, decide_eq_true_eq] at h
  exact ⟨h.1.1, h.1.2, h.2⟩
def timesI (a b : Int) : Int := bif (a == (-1000000000000000)) || (b == (-1000000000000000)) then (-1000000000000000) else w64 (a + b)
theorem spec_l01Times_ok (a b : Int) : M.Conv (spec_l01Times a b) (timesI a b) := M.Conv_ite2 (fun _ => M.Conv_ret _) (fun _ => M.Conv_ret _)
theorem impl_times_ok (a b : Int) : M.Conv (impl_times a b) (timesI a b) := M.Conv_ite2 (fun _ => M.Conv_ret _) (fun _ => M.Conv_ret _)
theorem impl_checkedVector_ok {x : List Int} (hl : x.length ≤ 9223372036854775807) : M.Conv (impl_checkedVector x) (bif x.all valB then (x, 0) else ([], 3)) := by
  unfold impl_checkedVector
  refine M.Conv_bind (impl_areValues_ok hl) (M.Conv_ite (fun h => ?_) (fun h => ?_))
  · simp only [Bool.not_eq_true'] at h; rw [h]; exact M.Conv_ret _
  · simp only [Bool.not_eq_false'] at h; rw [h]; exact M.Conv_ret _
theorem Conv_fillN {β : Type} {n : Nat} {f : Int → List β → M (List β ⊕ List β)} (g : Nat → β) (z : β) (hl : n ≤ 9223372036854775807)
    (H : ∀ (i : Nat) (s : List β), i < n → s.length = n → M.Conv (f i s) (.inl (s.set i (g i)))) : M.Conv (M.forI 0 (n : Int) (fun s => s) f (List.replicate n z)) ((List.range n).map g) := by
  have h := M.Conv_fill (l := List.replicate n z) (f := f) (fun i _ => g i) z (by simpa using hl) (fun i x s hx hs => H i s (by simpa using (List.getElem?_eq_some_iff.1 hx).1) (by simpa using hs))
  simp only [List.length_replicate] at h
  refine h.of (List.ext_getElem? fun i => ?_)
  by_cases hi : i < n
  · simp [hi]
  · rw [List.getElem?_eq_none (by simp; omega), List.getElem?_eq_none (by simp; omega)]
theorem val_cases {x : Int} (h : valB x = true) : x = -1000000000000000 ∨ (-1000000 ≤ x ∧ x ≤ 1000000) := by
  cases hb : (x == (-1000000000000000)) with
  | true => left; simpa using hb
  | false => right; exact finB_bd (val_ne h hb)
theorem Conv_forV {σ : Type} {n : Nat} {f : Int → σ → M (σ ⊕ σ)} (val : Nat → σ) (hn : n ≤ 9223372036854775807) (h : ∀ i, i < n → M.Conv (f i (val i)) (.inl (val (i + 1)))) : M.Conv (M.forI 0 (n : Int) (fun s => s) f (val 0)) (val n) := by
  have := M.Conv_forI (l := List.range n) (f := f) (fin := fun s => s) (s := val 0) (ρ := σ) (fun i _ _ => .inl (val (i + 1))) (fun i s => s = val i) (by simpa using hn) rfl (fun i x s hx hs => by
    subst hs
    have hi := (List.getElem?_eq_some_iff.1 hx).1
    exact ⟨h i (by simpa using hi), fun s' e => by cases e; rfl⟩)
  simp only [List.length_range] at this
  refine this.of ?_
  have run : ∀ (m i : Nat), M.run (σ := σ) (ρ := σ) (fun i (_ : Nat) _ => .inl (val (i + 1))) (fun s => s) i (List.range m) (val i) = val (i + m) := by
    have g : ∀ (l : List Nat) (i : Nat), M.run (σ := σ) (ρ := σ) (fun i (_ : Nat) _ => .inl (val (i + 1))) (fun s => s) i l (val i) = val (i + l.length) := by
      intro l
      induction l with
      | nil => intro i; rfl
      | cons x xs ih => intro i; simp only [M.run, List.length_cons]; rw [ih (i + 1)]; congr 1; omega
    intro m i
    rw [g, List.length_range]
  simpa using run n 0
theorem spec_l02Bottom1_ok {n : Nat} (h : n ≤ 1099511627) : M.Conv (spec_l02Bottom 1 (n : Int)) [List.replicate n (-1000000000000000)] := by
  unfold spec_l02Bottom
  have inner : M.Conv (M.forI 0 (n : Int) (fun s => s) (fun _ => (fun (s2 : (List Int)) => M.bind (M.app s2 ([(-1000000000000000)] : List Int)) (fun l1 => M.ret (.inl l1)))) ([] : List Int)) (List.replicate n (-1000000000000000)) :=
    Conv_forV (fun i => List.replicate i (-1000000000000000)) (by omega) fun i hi => M.Conv_bind (M.Conv_app (by simp; omega)) ((M.Conv_ret _).of (by rw [List.replicate_succ']))
  refine M.Conv_bind (x := [List.replicate n (-1000000000000000)]) ?_ (M.Conv_ret _)
  have := Conv_forV (n := 1) (f := (fun _ => (fun (s1 : (List (List Int))) => M.bind (M.forI 0 (n : Int) (fun s => s) (fun _ => (fun (s2 : (List Int)) => M.bind (M.app s2 ([(-1000000000000000)] : List Int)) (fun l1 => M.ret (.inl l1)))) ([] : List Int)) (fun x2 => M.bind (M.app s1 [x2]) (fun l2 => M.ret (.inl l2))))))
    (fun i => List.replicate i (List.replicate n (-1000000000000000))) (by omega) (fun i hi => M.Conv_bind inner (M.Conv_bind (M.Conv_app (by simp; omega)) ((M.Conv_ret _).of (by rw [List.replicate_succ']))))
  exact this
/-- what has been gathered so far: at least the products of the pairs that have been looked at -/
def Prod2 (c d : List Int) (n : Nat) (i k : Nat) (s : List Int) : Prop := s.length = n ∧ ∀ (p q : Nat) x y z, c[p]? = some x → d[q]? = some y → (p < i ∨ p = i ∧ q < k) → s[p + q]? = some z → timesI x y ≤ z
theorem prod_round {c d : List Int} {n i k : Nat} {s : List Int} {x y : Int} (hx : c[i]? = some x) (hy : d[k]? = some y) (hn : n + 1 = c.length + d.length) (h : Prod2 c d n i k s) :
    ∃ z, s[i + k]? = some z ∧ Prod2 c d n i (k + 1) (s.set (i + k) (mx z (timesI x y))) := by
  have hi := (List.getElem?_eq_some_iff.1 hx).1
  have hk := (List.getElem?_eq_some_iff.1 hy).1
  obtain ⟨h1, h2⟩ := h
  have hlt : i + k < s.length := by omega
  refine ⟨s[i + k], List.getElem?_eq_getElem hlt, by simpa using h1, fun p q u v z hu hv hpq hz => ?_⟩
  by_cases e : i + k = p + q
  · rw [← e, List.getElem?_set_self hlt] at hz
    cases hz
    rw [mx_eq]
    by_cases e2 : p = i ∧ q = k
    · obtain ⟨rfl, rfl⟩ := e2
      rw [hx] at hu; rw [hy] at hv; cases hu; cases hv
      omega
    · have := h2 p q u v s[i + k] hu hv (by omega) (by rw [← e]; exact List.getElem?_eq_getElem hlt)
      omega
  · rw [List.getElem?_set_ne e] at hz
    exact h2 p q u v z hu hv (by omega) hz
theorem same_MultiplyPolynomials (c : List Int) (gc : fitL inI64 c) (d : List Int) (gd : fitL inI64 d) (_ : smI c) (_ : smI d) : Two (spec_MultiplyPolynomials c d) (impl_MultiplyPolynomials c d) (fun w => smI w.1) := by
  unfold spec_MultiplyPolynomials impl_MultiplyPolynomials
  refine Two.bindC (spec_IsPolynomial_ok gc.1) (impl_IsPolynomial_ok gc.1) ?_
  refine Two.bind (P := fun b => b = !(polyB c && polyB d)) (Two.ite (fun h => Two.ret _ ?_) (fun h => Two.bindC (spec_IsPolynomial_ok gd.1) (impl_IsPolynomial_ok gd.1) (Two.ret _ ?_))) ?_
  · simp at h; simp [h]
  · simp at h; simp [h]
  rintro _ rfl
  refine Two.ite (fun _ => Two.ret _ (by simp [smI])) (fun h => ?_)
  simp only [Bool.not_eq_false', Bool.and_eq_true] at h
  obtain ⟨c1, c2, c3⟩ := polyB_len h.1
  obtain ⟨d1, d2, d3⟩ := polyB_len h.2
  have c0 : 0 < c.length := by cases c with | nil => simp at c3 | cons _ _ => simp
  have d0 : 0 < d.length := by cases d with | nil => simp at d3 | cons _ _ => simp
  obtain ⟨n, hn⟩ : ∃ n, n + 1 = c.length + d.length := ⟨c.length + d.length - 1, by omega⟩
  have hw : w64 (w64 ((c.length : Int) + (d.length : Int)) - 1) = (n : Int) := by rw [w64_eq ((c.length : Int) + d.length) (by omega), w64_eq _ (by omega)]; omega
  rw [hw]
  let B : List Int := List.replicate n (-1000000000000000)
  have hB : B.length = n := by simp [B]
  -- both programs' rounds
  let FT : Int → List Int → M (List Int ⊕ List Int) := (fun i1 => (fun (s1 : (List Int)) => M.bind (M.forI 0 (d.length : Int) (fun s => s) (fun i2 => (fun (s2 : (List Int)) => M.bind (M.idx s2 (w64 (i1 + i2))) (fun x8 => M.bind (M.idx c i1) (fun x9 => M.bind (M.idx d i2) (fun x10 => M.bind (spec_l01Times x9 x10) (fun x11 => M.bind (M.idx s2 (w64 (i1 + i2))) (fun x12 => M.bind (M.upd s2 (w64 (i1 + i2)) (mx x8 x11)) (fun l1 => M.ret (.inl l1))))))))) s1) (fun x7 => M.ret (.inl x7))))
  let FI : Int → List Int → M (List Int ⊕ List Int) := (fun i2 => (fun (s2 : (List Int)) => M.bind (M.idx c i2) (fun x7 => M.bind (M.forI 0 (d.length : Int) (fun s => s) (fun i3 => (fun (s3 : (List Int)) => M.bind (M.idx d i3) (fun x9 => M.bind (M.idx s3 (w64 (i2 + i3))) (fun x10 => M.bind (impl_times x7 x9) (fun x11 => M.bind (M.idx s3 (w64 (i2 + i3))) (fun x12 => M.bind (M.upd s3 (w64 (i2 + i3)) (mx x10 x11)) (fun l3 => M.ret (.inl l3)))))))) s2) (fun x8 => M.ret (.inl x8)))))
  have key : Two (M.forI 0 (c.length : Int) (fun s => s) FT B) (M.forI 0 (c.length : Int) (fun s => s) FI B) (fun s => Prod2 c d n c.length 0 s) := by
    refine Two.for (fun i s => Prod2 c d n i.toNat 0 s) (by omega) (by omega) ⟨hB, fun p q x y z _ _ hpq => by simp at hpq⟩ (fun i s h0 h1 hs => ?_) (fun i s hi hs => ?_)
    · obtain ⟨j, rfl⟩ : ∃ j : Nat, i = j := ⟨i.toNat, by omega⟩
      simp only [Int.toNat_natCast] at hs
      have hj : j < c.length := by omega
      have hx : c[j]? = some c[j] := List.getElem?_eq_getElem hj
      have gx : M.Conv (M.idx c (j : Int)) c[j] := M.Conv_get (by omega) (by rw [Int.toNat_natCast]; exact hx)
      refine Two.right gx (Two.bind (P := fun s => Prod2 c d n (j + 1) 0 s) ?_ (fun s hs => Two.ret _ (.inl ⟨s, rfl, by rw [show ((j : Int) + 1).toNat = j + 1 by omega]; exact hs⟩)))
      refine Two.for (fun k s => Prod2 c d n j k.toNat s) (by omega) (by omega) hs (fun k s k0 k1 hs => ?_) (fun k s hk hs => ?_)
      · obtain ⟨l, rfl⟩ : ∃ l : Nat, k = l := ⟨k.toNat, by omega⟩
        simp only [Int.toNat_natCast] at hs
        have hl : l < d.length := by omega
        have hy : d[l]? = some d[l] := List.getElem?_eq_getElem hl
        have gy : M.Conv (M.idx d (l : Int)) d[l] := M.Conv_get (by omega) (by rw [Int.toNat_natCast]; exact hy)
        obtain ⟨z, hz, hp⟩ := prod_round hx hy hn hs
        have hzl := (List.getElem?_eq_some_iff.1 hz).1
        have ew : w64 ((j : Int) + (l : Int)) = ((j + l : Nat) : Int) := by rw [w64_eq _ (by omega)]; omega
        rw [ew]
        have gz : M.Conv (M.idx s ((j + l : Nat) : Int)) z := M.Conv_get (by omega) (by rw [Int.toNat_natCast]; exact hz)
        have hu : M.Conv (M.upd s ((j + l : Nat) : Int) (mx z (timesI c[j] d[l]))) (s.set (j + l) (mx z (timesI c[j] d[l]))) := M.Conv_upd hzl
        refine Two.mk (r := .inl (s.set (j + l) (mx z (timesI c[j] d[l])))) ?_ ?_ (.inl ⟨_, rfl, by rw [show ((l : Int) + 1).toNat = l + 1 by omega]; exact hp⟩)
        · exact M.Conv_bind gz (M.Conv_bind gx (M.Conv_bind gy (M.Conv_bind (spec_l01Times_ok _ _) (M.Conv_bind gz (M.Conv_bind hu (M.Conv_ret _))))))
        · exact M.Conv_bind gy (M.Conv_bind gz (M.Conv_bind (impl_times_ok _ _) (M.Conv_bind gz (M.Conv_bind hu (M.Conv_ret _)))))
      · rcases hk with rfl | ⟨rfl, hd⟩
        · simp only [Int.toNat_natCast] at hs
          refine ⟨hs.1, fun p q x y z hx hy hpq hz => hs.2 p q x y z hx hy ?_ hz⟩
          have := (List.getElem?_eq_some_iff.1 hy).1
          omega
        · omega
    · rcases hi with rfl | ⟨rfl, hd⟩
      · simpa using hs
      · omega
  obtain ⟨s, k1, k2, hs⟩ := key
  have hsl := hs.1
  -- some coefficient is no Bottom
  have some : s.any (· != (-1000000000000000)) = true := by
    rw [List.any_eq_true] at c3 d3
    obtain ⟨x, hx, hxn⟩ := c3
    obtain ⟨y, hy, hyn⟩ := d3
    obtain ⟨p, hp, ex⟩ := List.mem_iff_getElem.1 hx
    obtain ⟨q, hq, ey⟩ := List.mem_iff_getElem.1 hy
    have hpq : p + q < s.length := by omega
    rw [List.all_eq_true] at c2 d2
    have vx := val_cases (c2 x hx)
    have vy := val_cases (d2 y hy)
    have hxn' : x ≠ -1000000000000000 := by simpa using hxn
    have hyn' : y ≠ -1000000000000000 := by simpa using hyn
    have ht : timesI x y = x + y := by
      simp only [timesI]
      rw [show (x == (-1000000000000000)) = false by simpa using hxn', show (y == (-1000000000000000)) = false by simpa using hyn']
      exact w64_eq _ (by omega)
    have := hs.2 p q x y s[p + q] (by rw [← ex]; exact List.getElem?_eq_getElem hp) (by rw [← ey]; exact List.getElem?_eq_getElem hq) (by omega) (List.getElem?_eq_getElem hpq)
    rw [List.any_eq_true]
    refine ⟨s[p + q], List.getElem_mem hpq, ?_⟩
    have : s[p + q] ≠ -1000000000000000 := by omega
    simpa using this
  refine Two.left (spec_l02Bottom1_ok (by omega)) (Two.left (M.Conv_get (x := B) (by omega) rfl) (Two.left k1 (Two.left (spec_IsPolynomial_ok (by omega)) ?_)))
  refine Two.right (M.Conv_make (by omega) (by omega)) ?_
  rw [Int.toNat_natCast, List.length_replicate]
  by_cases h12 : 12 < n
  · have e : polyB s = false := by simp only [polyB]; rw [decide_eq_false (by omega)]; rfl
    rw [e]
    refine Two.iteR (fun _ => Two.iteL (fun _ => Two.ret _ (by simp [smI])) (fun q => by cases q)) (fun q => by have := of_decide_eq_false q; omega)
  · refine Two.iteR (fun q => by have := of_decide_eq_true q; omega) (fun _ => ?_)
    refine Two.right (x := B) ((Conv_fillN (fun _ => (-1000000000000000)) 0 (by omega) fun i s hi hs => ?_).of (by simp [B, List.map_const'])) ?_
    · exact M.Conv_bind (M.Conv_get (x := s[i]) (by omega) (by simp [show i < s.length by omega])) (M.Conv_bind (M.Conv_upd (by omega)) (M.Conv_ret _))
    refine Two.right k2 (Two.right (impl_checkedVector_ok (by omega)) ?_)
    have e : polyB s = s.all valB := by simp only [polyB, some, decide_eq_true (show s.length ≤ 12 by omega), Bool.true_and, Bool.and_true]
    rw [e]
    cases s.all valB with
    | false => exact Two.iteL (fun _ => Two.ret _ (by simp [smI])) (fun q => by cases q)
    | true => exact Two.iteL (fun q => by cases q) (fun _ => Two.ret _ (by simp only [smI]; omega))

theorem FnExactMultiplyPolynomials_ok (aC : List Int) (gaC : fitL inI64 aC) (aD : List Int) (gaD : fitL inI64 aD) : M.Conv (laws_FnExactMultiplyPolynomials aC aD) true := by
  unfold laws_FnExactMultiplyPolynomials
  refine M.Conv_ite (fun _ => M.Conv_ret _) (fun qaC => ?_)
  have saC : smI aC := by have := of_decide_eq_false qaC; unfold smI; omega
  refine M.Conv_ite (fun _ => M.Conv_ret _) (fun qaD => ?_)
  have saD : smI aD := by have := of_decide_eq_false qaD; unfold smI; omega
  refine M.Conv_bind (toI_ok saC) ?_
  refine M.Conv_bind (toI_ok saD) ?_
  obtain ⟨w, hS, hI, hw⟩ := same_MultiplyPolynomials aC gaC aD gaD saC saD
  refine M.Conv_bind hS ?_
  refine M.Conv_bind (toI_ok saC) ?_
  refine M.Conv_bind (toI_ok saD) ?_
  refine M.Conv_bind hI ?_
  refine M.Conv_bind (eqI_refl hw) ?_
  refine M.Conv_ite (fun q => ?_) (fun _ => ?_)
  · exfalso; revert q; simp
  refine M.Conv_bind (toI_ok saC) ?_
  refine M.Conv_bind (eqI_refl saC) ?_
  refine M.Conv_ite (fun q => ?_) (fun _ => ?_)
  · exfalso; revert q; simp
  refine M.Conv_bind (toI_ok saD) ?_
  refine M.Conv_bind (eqI_refl saD) ?_
  refine M.Conv_ite (fun q => ?_) (fun _ => ?_)
  · exfalso; revert q; simp
  obtain ⟨k1, mk1, hmk1, lek1, gek1, _, hek1⟩ := markI_ok saC _ (show (0 : Int) ≤ 1 by omega) (by omega)
  refine M.Conv_bind hmk1 ?_
  obtain ⟨k2, mk2, hmk2, lek2, gek2, _, hek2⟩ := markI_ok saD _ (show (0 : Int) ≤ k1 by omega) (by omega)
  refine M.Conv_bind hmk2 ?_
  refine M.Conv_bind (x := false) (M.Conv_ite (fun q => ?_) (fun _ => M.Conv_bind (eqI_refl hw) (M.Conv_ret _))) ?_
  · exfalso; revert q; simp; omega
  refine M.Conv_ite (fun q => ?_) (fun _ => ?_)
  · exfalso; revert q; simp
  obtain ⟨k3, mk3, hmk3, lek3, gek3, _, hek3⟩ := markI_ok hw _ (show (0 : Int) ≤ 1 by omega) (by omega)
  refine M.Conv_bind hmk3 ?_
  refine M.Conv_bind hek3 ?_
  refine M.Conv_ite (fun q => ?_) (fun _ => ?_)
  · exfalso; revert q; simp; try omega
  refine M.Conv_ite (fun q => ?_) (fun _ => ?_)
  · exfalso; revert q; simp; try omega
  refine M.Conv_bind (toI_ok saC) ?_
  refine M.Conv_bind (toI_ok saD) ?_
  refine M.Conv_bind hI ?_
  refine M.Conv_bind (eqI_refl hw) ?_
  refine M.Conv_ite (fun q => ?_) (fun _ => ?_)
  · exfalso; revert q; simp; try omega
  refine M.Conv_bind hek3 ?_
  refine M.Conv_ite (fun q => ?_) (fun _ => ?_)
  · exfalso; revert q; simp; try omega
  refine M.Conv_ite (fun q => ?_) (fun _ => ?_)
  · exfalso; revert q; simp; try omega
  exact M.Conv_ret _

end Go.Proofs.Ytdgehhbgjmgjjaa
