/-
  Plain proofs: the plain program of the law ends with true.
  Conditions: None beyond the given statement.
-/
import Derived.Test.YtdgehhbgjmgjjaaP
namespace Go.Proofs.Ytdgehhbgjmgjjaa
open Go
/-! ### plain programs: loops over a list -/
namespace M
variable {α β σ ρ : Type}
/-- rounds over the elements of a list, each with its place; a round may leave -/
def run (g : Nat → α → σ → σ ⊕ ρ) (fin : σ → ρ) : Nat → List α → σ → ρ
  | _, [], s => fin s
  | i, x :: xs, s => match g i x s with
    | .inl s' => run g fin (i + 1) xs s'
    | .inr r => r
theorem Conv_forN {l : List α} {f : Int → σ → M (σ ⊕ ρ)} (g : Nat → α → σ → σ ⊕ ρ) (fin : σ → ρ) (I : Nat → σ → Prop) (hi : Int) :
    ∀ (xs : List α) (i : Nat) (s : σ), hi = (i + xs.length : Nat) → I i s → (∀ (j : Nat) x s, xs[j]? = some x → I (i + j) s → Conv (f (i + j : Nat) s) (g (i + j) x s) ∧ ∀ s', g (i + j) x s = .inl s' → I (i + j + 1) s') →
      ∃ N, ∀ n, N ≤ n → forN hi fin f n xs.length i s = some (run g fin i xs s)
  | [], i, s, hh, _, _ => ⟨0, fun n _ => by
      have : ¬ (i : Int) < hi := by rw [hh]; simp
      simp [forN, run, this]⟩
  | x :: xs, i, s, hh, h0, H => by
    have hlt : (i : Int) < hi := by rw [hh]; simp; omega
    obtain ⟨⟨N, hN⟩, hI⟩ := H 0 x s rfl h0
    simp only [Nat.add_zero] at hN hI
    cases hg : g i x s with
    | inl s' =>
      have hi' := hI s' hg
      obtain ⟨N', hN'⟩ := Conv_forN (l := l) g fin I hi xs (i + 1) s' (by rw [hh, List.length_cons]; congr 1; omega) hi' (fun j y s hy hIs => by
        have := H (j + 1) y s (by simpa using hy) (by rw [← Nat.add_assoc, Nat.add_right_comm]; exact hIs)
        rw [show i + (j + 1) = i + 1 + j by omega] at this
        exact this)
      refine ⟨max N N', fun n hn => ?_⟩
      have h1 := hN n (by omega)
      rw [hg] at h1
      simp only [List.length_cons, forN, hlt, decide_true, cond_true, h1, run, hg]
      have := hN' n (by omega)
      simpa using this
    | inr r =>
      refine ⟨N, fun n hn => ?_⟩
      have h1 := hN n hn
      rw [hg] at h1
      simp only [List.length_cons, forN, hlt, decide_true, cond_true, h1, run, hg]
/-- a loop over a list, with an invariant -/
theorem Conv_forI {l : List α} {f : Int → σ → M (σ ⊕ ρ)} {fin : σ → ρ} {s : σ} (g : Nat → α → σ → σ ⊕ ρ) (I : Nat → σ → Prop) (hl : l.length ≤ 9223372036854775807) (h0 : I 0 s)
    (H : ∀ (i : Nat) x s, l[i]? = some x → I i s → Conv (f i s) (g i x s) ∧ ∀ s', g i x s = .inl s' → I (i + 1) s') : Conv (forI 0 (l.length : Int) fin f s) (run g fin 0 l s) := by
  obtain ⟨N, hN⟩ := Conv_forN (l := l) (f := f) g fin I (l.length : Int) l 0 s (by simp) h0 (fun j x s hx hI => by simpa using H j x s hx (by simpa using hI))
  refine ⟨N, fun n hn => ?_⟩
  have h1 : (l.length : Int) ≤ 9223372036854775807 := by omega
  simp only [forI, h1, decide_true, Bool.and_true, show (-9223372036854775808 : Int) ≤ 0 by decide, cond_true]
  have := hN n hn
  simpa using this
/-- .. without one -/
theorem Conv_forL {l : List α} {f : Int → σ → M (σ ⊕ ρ)} {fin : σ → ρ} {s : σ} (g : Nat → α → σ → σ ⊕ ρ) (hl : l.length ≤ 9223372036854775807)
    (H : ∀ (i : Nat) x s, l[i]? = some x → Conv (f i s) (g i x s)) : Conv (forI 0 (l.length : Int) fin f s) (run g fin 0 l s) :=
  Conv_forI g (fun _ _ => True) hl trivial fun i x s hx _ => ⟨H i x s hx, fun _ _ => trivial⟩
theorem Conv.of {m : M α} {r r' : α} (h : Conv m r) (e : r = r') : Conv m r' := e ▸ h
theorem Conv_ite {b : Bool} {x y : M α} {r : α} (h1 : b = true → Conv x r) (h2 : b = false → Conv y r) : Conv (ite b x y) r := by
  cases b
  · exact h2 rfl
  · exact h1 rfl
theorem Conv_ite2 {b : Bool} {x y : M α} {r s : α} (h1 : b = true → Conv x r) (h2 : b = false → Conv y s) : Conv (ite b x y) (bif b then r else s) := by
  cases b
  · exact h2 rfl
  · exact h1 rfl
theorem Conv_guard {b : Bool} (h : b = true) : Conv (guard b) () := ⟨0, fun _ _ => by simp [guard, h]⟩
theorem Conv_upd {l : List α} {i : Nat} {x : α} (h : i < l.length) : Conv (upd l i x) (l.set i x) := ⟨0, fun _ _ => by simp [upd, h]⟩
theorem Conv_get {l : List α} {i : Int} {x : α} (h0 : 0 ≤ i) (h : l[i.toNat]? = some x) : Conv (idx l i) x := ⟨0, fun _ _ => by simp [idx, h0, h]⟩
/-- a value told in both ways of a test, then the rest -/
theorem Conv_bite {b : Bool} {x y : M α} {f : α → M β} {u v : α} {r : β} (h1 : b = true → Conv x u) (h2 : b = false → Conv y v) (g : Conv (f (bif b then u else v)) r) : Conv (bind (ite b x y) f) r :=
  Conv_bind (Conv_ite2 h1 h2) g

/-! searches: a loop that leaves at the first element of a kind -/
theorem run_all (p : α → Bool) (u : Unit ⊕ ρ) : ∀ (i : Nat) (l : List α), run (ρ := Unit ⊕ ρ) (fun _ x _ => bif p x then .inl () else .inr u) (fun s => .inl s) i l () = bif l.all p then .inl () else u
  | _, [] => rfl
  | i, x :: xs => by
    simp only [run, List.all_cons]
    cases p x
    · rfl
    · simpa using run_all p u (i + 1) xs
/-- 'for .. if not p x, return v' -/
theorem Conv_all {l : List α} {f : Int → Unit → M (Unit ⊕ (Unit ⊕ ρ))} (p : α → Bool) (v : ρ) (hl : l.length ≤ 9223372036854775807) (H : ∀ (i : Nat) x, l[i]? = some x → Conv (f i ()) (bif p x then .inl () else .inr (.inr v))) :
    Conv (forI 0 (l.length : Int) (fun s => .inl s) f ()) (bif l.all p then .inl () else .inr v) :=
  (Conv_forL (fun _ x _ => bif p x then .inl () else .inr (.inr v)) hl fun i x _ hx => H i x hx).of (run_all p (.inr v) 0 l)
/-- the same, where the element's place matters to the test -/
theorem run_allI (p : Nat → α → Bool) (u : Unit ⊕ ρ) : ∀ (i : Nat) (l : List α), run (ρ := Unit ⊕ ρ) (fun j x _ => bif p j x then .inl () else .inr u) (fun s => .inl s) i l () = bif (l.zipIdx i).all (fun q => p q.2 q.1) then .inl () else u
  | _, [] => rfl
  | i, x :: xs => by
    simp only [run, List.zipIdx_cons, List.all_cons]
    cases p i x
    · rfl
    · simpa using run_allI p u (i + 1) xs
theorem Conv_allI {l : List α} {f : Int → Unit → M (Unit ⊕ (Unit ⊕ ρ))} (p : Nat → α → Bool) (v : ρ) (hl : l.length ≤ 9223372036854775807) (H : ∀ (i : Nat) x, l[i]? = some x → Conv (f i ()) (bif p i x then .inl () else .inr (.inr v))) :
    Conv (forI 0 (l.length : Int) (fun s => .inl s) f ()) (bif (l.zipIdx 0).all (fun q => p q.2 q.1) then .inl () else .inr v) :=
  (Conv_forL (fun j x _ => bif p j x then .inl () else .inr (.inr v)) hl fun i x _ hx => H i x hx).of (run_allI p (.inr v) 0 l)
/-- 'for i .. if p x, return i' -/
theorem run_find (p : α → Bool) : ∀ (i : Nat) (l : List α), run (σ := Unit) (ρ := Unit ⊕ Int) (fun j x _ => bif p x then .inr (.inr (j : Int)) else .inl ()) (fun s => .inl s) i l () = match l.findIdx? p with
    | some j => .inr ((i + j : Nat) : Int)
    | none => .inl ()
  | _, [] => rfl
  | i, x :: xs => by
    simp only [run, List.findIdx?_cons]
    cases hp : p x
    · simp only [cond_false, run_find p (i + 1) xs, Bool.false_eq_true, if_false]
      cases xs.findIdx? p with
      | none => rfl
      | some j => simp only [Option.map_some]; congr 2; omega
    · simp
theorem Conv_find {l : List α} {f : Int → Unit → M (Unit ⊕ (Unit ⊕ Int))} (p : α → Bool) (hl : l.length ≤ 9223372036854775807) (H : ∀ (i : Nat) x, l[i]? = some x → Conv (f i ()) (bif p x then .inr (.inr (i : Int)) else .inl ())) :
    Conv (forI 0 (l.length : Int) (fun s => .inl s) f ()) (match l.findIdx? p with | some j => .inr (j : Int) | none => .inl ()) :=
  (Conv_forL (fun j x _ => bif p x then .inr (.inr (j : Int)) else .inl ()) hl fun i x _ hx => H i x hx).of (by rw [run_find]; simp)
/-- sums: each round turns what has been gathered -/
theorem run_fold (g : σ → α → σ) : ∀ (i : Nat) (l : List α) (s : σ), run (fun _ x s => .inl (g s x)) (fun s => s) i l s = l.foldl g s
  | _, [], _ => rfl
  | i, x :: xs, s => by simpa [run] using run_fold g (i + 1) xs (g s x)
theorem Conv_fold {l : List α} {f : Int → σ → M (σ ⊕ σ)} {s : σ} (g : σ → α → σ) (hl : l.length ≤ 9223372036854775807) (H : ∀ (i : Nat) x s, l[i]? = some x → Conv (f i s) (.inl (g s x))) :
    Conv (forI 0 (l.length : Int) (fun s => s) f s) (l.foldl g s) :=
  (Conv_forL (fun _ x s => .inl (g s x)) hl fun i x s hx => H i x s hx).of (run_fold g 0 l s)
theorem get_set_append {l r : List α} {x y : α} : (l ++ y :: r).set l.length x = l ++ x :: r := by simp
/-- a loop that fills a list of the same length, element by element -/
theorem run_fill (g : Nat → α → β) (z : β) : ∀ (i : Nat) (l : List α) (d : List β), d.length = i →
    run (fun j x s => .inl (s.set j (g j x))) (fun s => s) i l (d ++ List.replicate l.length z) = d ++ (l.zipIdx i).map (fun q => g q.2 q.1)
  | _, [], d, _ => by simp [run]
  | i, x :: xs, d, hd => by
    subst hd
    simp only [run, List.length_cons, List.replicate_succ, get_set_append]
    have := run_fill g z (d.length + 1) xs (d ++ [g d.length x]) (by simp)
    simp only [List.append_assoc, List.singleton_append] at this
    rw [this]
    simp
theorem Conv_fill {l : List α} {f : Int → List β → M (List β ⊕ List β)} (g : Nat → α → β) (z : β) (hl : l.length ≤ 9223372036854775807)
    (H : ∀ (i : Nat) x s, l[i]? = some x → s.length = l.length → Conv (f i s) (.inl (s.set i (g i x)))) :
    Conv (forI 0 (l.length : Int) (fun s => s) f (List.replicate l.length z)) ((l.zipIdx 0).map (fun q => g q.2 q.1)) := by
  refine (Conv_forI (fun j x s => .inl (s.set j (g j x))) (fun _ s => s.length = l.length) hl (by simp) fun i x s hx hI => ⟨H i x s hx hI, fun s' e => ?_⟩).of ?_
  · cases e; simpa using hI
  · simpa using run_fill g z 0 l [] rfl
theorem zipIdx_map_fst {l : List α} {g : α → β} {i : Nat} : ((l.zipIdx i).map fun q => g q.1) = l.map g := by
  have h : List.map (g ∘ Prod.fst) (l.zipIdx i) = List.map g l := by rw [← List.map_map, List.zipIdx_map_fst]
  exact h
theorem findIdx_any {l : List α} {p : α → Bool} : (decide ((0:Int) ≤ match l.findIdx? p with | some j => (j : Int) | none => -1)) = l.any p := by
  cases h : l.findIdx? p with
  | none => rw [List.findIdx?_eq_none_iff] at h; simp; exact fun x hx => by simpa using h x hx
  | some j =>
    obtain ⟨hj, hp, _⟩ := List.findIdx?_eq_some_iff_getElem.1 h
    simp
    exact ⟨_, List.getElem_mem hj, hp⟩
end M
def finB (x : Int) : Bool := decide (-1000000 ≤ x) && decide (x ≤ 1000000)
def valB (x : Int) : Bool := x == (-1000000000000000) || finB x
theorem toInt64S_ok {a : List Int} (h : a.length ≤ 1099511627776) : M.Conv (laws_toInt64S a) a := by
  unfold laws_toInt64S
  refine M.Conv_bind (M.Conv_make (by omega) (by omega)) ?_
  refine M.Conv_bind (x := a) (((M.Conv_fill (l := a) (f := _) (fun _ x => x) 0 (by omega) fun i x s hx hs => ?_)).of ?_) (M.Conv_ret _)
  · have hi := (List.getElem?_eq_some_iff.1 hx).1
    refine M.Conv_bind (M.Conv_get (by omega) (by simpa using hx)) ?_
    refine M.Conv_bind (M.Conv_get (x := s[i]) (by omega) (by simp [show i < s.length by omega])) ?_
    exact M.Conv_bind (M.Conv_upd (by omega)) (M.Conv_ret _)
  · exact M.zipIdx_map_fst.trans (List.map_id' _)
theorem eqInt64S_ok {a b : List Int} (ha : a.length ≤ 9223372036854775807) : M.Conv (laws_eqInt64S a b) (decide (a = b)) := by
  unfold laws_eqInt64S
  refine M.Conv_ite (fun h => ?_) (fun h => ?_)
  · have : a ≠ b := by rintro rfl; simp at h
    rw [decide_eq_false this]; exact M.Conv_ret _
  · have hl : a.length = b.length := Int.ofNat.inj (by simpa using h)
    refine M.Conv_bind (M.Conv_allI (fun i x => b[i]? == some x) false ha fun i x hx => ?_) ?_
    · have hi := (List.getElem?_eq_some_iff.1 hx).1
      refine M.Conv_bind (M.Conv_get (by omega) (by simpa using hx)) ?_
      refine M.Conv_bind (M.Conv_get (x := b[i]) (by omega) (by simp [show i < b.length by omega])) ?_
      have hb : (b[i]? == some x) = !(x != b[i]) := by rw [List.getElem?_eq_getElem (by omega), bne, Bool.not_not, Option.some_beq_some, BEq.comm]
      rw [hb]
      cases (x != b[i]) <;> exact M.Conv_ret _
    · have key : ((a.zipIdx 0).all fun q => b[q.2]? == some q.1) = decide (a = b) := by
        by_cases e : a = b
        · subst e
          rw [decide_eq_true rfl, List.all_eq_true]
          rintro ⟨x, i⟩ hq
          have := List.mk_mem_zipIdx_iff_getElem?.1 hq
          simp [this]
        · rw [decide_eq_false e, Bool.eq_false_iff]
          intro h
          apply e
          rw [List.all_eq_true] at h
          refine List.ext_getElem hl fun i h1 h2 => ?_
          have := h (a[i], i) (List.mk_mem_zipIdx_iff_getElem?.2 (List.getElem?_eq_getElem h1))
          simp [h2] at this
          exact this.symm
      rw [key]
      cases decide (a = b) <;> exact M.Conv_ret _
theorem spec_l01In_ok (x lo hi : Int) : M.Conv (spec_l01In x lo hi) (decide (lo ≤ x) && decide (x ≤ hi)) := M.Conv_ret _
theorem spec_l01Finite_ok (x : Int) : M.Conv (spec_l01Finite x) (finB x) := M.Conv_bind (spec_l01In_ok _ _ _) (M.Conv_ret _)
theorem spec_IsValue_ok (x : Int) : M.Conv (spec_IsValue x) (valB x) := by
  unfold spec_IsValue
  refine M.Conv_bind (M.Conv_ite (r := valB x) (fun h => ?_) (fun h => ?_)) (M.Conv_ret _)
  · simp only [valB, h, Bool.true_or]; exact M.Conv_ret _
  · simp only [valB, h, Bool.false_or]; exact M.Conv_bind (spec_l01Finite_ok x) (M.Conv_ret _)
theorem spec_l01All_ok {l : List Int} (f : Bool) (hl : l.length ≤ 9223372036854775807) : M.Conv (spec_l01All l f) (l.all fun x => valB x && !(f && x == (-1000000000000000))) := by
  unfold spec_l01All
  refine M.Conv_bind (M.Conv_all (fun x => valB x && !(f && x == (-1000000000000000))) false hl fun i x hx => ?_) ?_
  · refine M.Conv_bind (M.Conv_get (by omega) (by simpa using hx)) (M.Conv_bind (spec_IsValue_ok x) ?_)
    refine M.Conv_bind (x := !(valB x && !(f && x == (-1000000000000000)))) (M.Conv_ite (fun h => ?_) (fun h => ?_)) ?_
    · simp at h; simp [h]; exact M.Conv_ret _
    · simp at h
      refine M.Conv_bind (x := (f && x == (-1000000000000000))) (M.Conv_ite (fun h => ?_) (fun h => ?_)) (by simp [h]; exact M.Conv_ret _)
      · simp [h]; exact M.Conv_bind (M.Conv_get (by omega) (by simpa using hx)) (M.Conv_ret _)
      · simp [h]; exact M.Conv_ret _
    · cases (valB x && !(f && x == (-1000000000000000))) <;> exact M.Conv_ret _
  · cases (l.all fun x => valB x && !(f && x == (-1000000000000000))) <;> exact M.Conv_ret _
theorem impl_within_ok (x lo hi : Int) : M.Conv (impl_within x lo hi) (decide (lo ≤ x) && decide (x ≤ hi)) := M.Conv_ret _
theorem impl_isFinite_ok (x : Int) : M.Conv (impl_isFinite x) (finB x) := M.Conv_bind (impl_within_ok _ _ _) (M.Conv_ret _)
theorem impl_IsValue_ok (x : Int) : M.Conv (impl_IsValue x) (valB x) := by
  unfold impl_IsValue
  refine M.Conv_bind (M.Conv_ite (r := valB x) (fun h => ?_) (fun h => ?_)) (M.Conv_ret _)
  · simp only [valB, h, Bool.true_or]; exact M.Conv_ret _
  · simp only [valB, h, Bool.false_or]; exact M.Conv_bind (impl_isFinite_ok x) (M.Conv_ret _)
/-- 'slices.ContainsFunc', behind 'slices.IndexFunc' -/
theorem contains_ok {α : Type} {l : List α} {f : Int → Unit → M (Unit ⊕ (Unit ⊕ Int))} (p : α → Bool) (hl : l.length ≤ 9223372036854775807) (H : ∀ (i : Nat) x, l[i]? = some x → M.Conv (f i ()) (bif p x then .inr (.inr (i : Int)) else .inl ())) :
    M.Conv (M.bind (M.bind (M.forI 0 (l.length : Int) (fun s => .inl s) f ()) (fun x1 => M.cont x1 (fun _ => M.ret (-1)) (fun r => M.ret r))) (fun x1 => M.ret (decide (0 ≤ x1)))) (l.any p) := by
  rw [← M.findIdx_any]
  refine M.Conv_bind (M.Conv_bind (M.Conv_find p hl H) ?_) (M.Conv_ret _)
  cases l.findIdx? p <;> exact M.Conv_ret _
theorem any_not {α : Type} {l : List α} {p : α → Bool} : (!l.any fun x => !p x) = l.all p := by
  induction l with
  | nil => rfl
  | cons x xs ih => simp only [List.any_cons, List.all_cons, Bool.not_or, Bool.not_not, ih]
theorem impl_areValues_ok {l : List Int} (hl : l.length ≤ 9223372036854775807) : M.Conv (impl_areValues l) (l.all valB) := by
  unfold impl_areValues slices_ContainsFunc_int_F_impl_areValues_1 slices_IndexFunc_int_F_impl_areValues_1
  refine M.Conv_bind (contains_ok (fun x => !valB x) hl fun i x hx => ?_) ((M.Conv_ret _).of any_not)
  refine M.Conv_bind (M.Conv_get (by omega) (by simpa using hx)) ?_
  refine M.Conv_bind (x := !valB x) (M.Conv_bind (impl_IsValue_ok x) (M.Conv_ret _)) ?_
  cases valB x <;> exact M.Conv_ret _
/-- the greatest of a list; Bottom if there is none -/
def maxL (l : List Int) : Int := l.foldl mx (-1000000000000000)
theorem impl_sumOf_ok {l : List Int} (hl : l.length ≤ 9223372036854775807) : M.Conv (impl_sumOf l) (maxL l) := by
  unfold impl_sumOf
  refine M.Conv_bind (M.Conv_fold mx hl fun i x s hx => ?_) (M.Conv_ret _)
  exact M.Conv_bind (M.Conv_get (by omega) (by simpa using hx)) (M.Conv_ret _)
theorem mx_eq (a b : Int) : mx a b = max a b := by unfold mx; split <;> omega
theorem foldl_mx_ge (l : List Int) (s : Int) : s ≤ l.foldl mx s := by
  induction l generalizing s with
  | nil => exact Int.le_refl _
  | cons x xs ih => exact Int.le_trans (by rw [mx_eq]; omega) (ih (mx s x))
theorem foldl_mx_mem {l : List Int} {s x : Int} (h : x ∈ l) : x ≤ l.foldl mx s := by
  induction l generalizing s with
  | nil => cases h
  | cons y ys ih =>
    rcases List.mem_cons.1 h with rfl | h
    · exact Int.le_trans (by rw [mx_eq]; omega) (foldl_mx_ge ys (mx s x))
    · exact ih h
theorem foldl_mx_in (l : List Int) (s : Int) : l.foldl mx s = s ∨ l.foldl mx s ∈ l := by
  induction l generalizing s with
  | nil => exact .inl rfl
  | cons y ys ih =>
    rcases ih (mx s y) with h | h
    · rw [List.foldl_cons, h, mx_eq]
      by_cases e : s ≤ y
      · right; rw [show max s y = y by omega]; exact List.mem_cons_self
      · left; omega
    · exact .inr (List.mem_cons_of_mem _ h)
theorem valB_ge {x : Int} (h : valB x = true) : -1000000000000000 ≤ x := by
  simp [valB, finB] at h; omega
theorem maxL_ne {l : List Int} (h : l.all valB = true) : (maxL l != (-1000000000000000)) = l.any (· != (-1000000000000000)) := by
  rw [List.all_eq_true] at h
  rw [Bool.eq_iff_iff, List.any_eq_true]
  constructor
  · intro hne
    rcases foldl_mx_in l (-1000000000000000) with e | e
    · simp [maxL, e] at hne
    · exact ⟨_, e, hne⟩
  · rintro ⟨x, hx, hne⟩
    have h1 := foldl_mx_mem (s := -1000000000000000) hx
    have h2 := valB_ge (h x hx)
    have hne : x ≠ -1000000000000000 := by simpa using hne
    have : maxL l ≠ -1000000000000000 := by unfold maxL; omega
    simpa using this
/-- a polynomial: up to twelve values, not all of them Bottom -/
def polyB (c : List Int) : Bool := decide (c.length ≤ 12) && c.all valB && c.any (· != (-1000000000000000))
theorem spec_IsPolynomial_ok {c : List Int} (hl : c.length ≤ 9223372036854775807) : M.Conv (spec_IsPolynomial c) (polyB c) := by
  unfold spec_IsPolynomial polyB
  refine M.Conv_bind (x := !(decide (c.length ≤ 12) && c.all valB)) (M.Conv_ite (fun h => ?_) (fun h => ?_)) ?_
  · have h := of_decide_eq_true h
    rw [decide_eq_false (by omega)]; exact M.Conv_ret _
  · have h := of_decide_eq_false h
    rw [decide_eq_true (by omega)]
    refine M.Conv_bind (spec_l01All_ok false hl) ((M.Conv_ret _).of ?_)
    simp
  · cases (decide (c.length ≤ 12) && c.all valB)
    · exact M.Conv_ret _
    · refine M.Conv_bind (M.Conv_all (fun x => x == (-1000000000000000)) true hl fun i x hx => ?_) ?_
      · refine M.Conv_bind (M.Conv_get (by omega) (by simpa using hx)) ?_
        simp only [bne]
        cases (x == (-1000000000000000)) <;> exact M.Conv_ret _
      · have : (c.all fun x => x == (-1000000000000000)) = !c.any (· != (-1000000000000000)) := by rw [← any_not]; rfl
        rw [this]
        cases c.any (· != (-1000000000000000)) <;> exact M.Conv_ret _
theorem impl_IsPolynomial_ok {c : List Int} (hl : c.length ≤ 9223372036854775807) : M.Conv (impl_IsPolynomial c) (polyB c) := by
  unfold impl_IsPolynomial polyB
  refine M.Conv_bind (impl_within_ok _ _ _) ?_
  by_cases h0 : c = []
  · subst h0; exact M.Conv_bind (x := false) (M.Conv_ret _) (M.Conv_bind (x := false) (M.Conv_ret _) (M.Conv_ret _))
  have hp : 0 < c.length := List.length_pos_iff.2 h0
  refine M.Conv_bind (x := decide (c.length ≤ 12) && c.all valB) (M.Conv_ite (fun h => ?_) (fun h => ?_)) ?_
  · simp at h
    rw [decide_eq_true (by omega)]; exact M.Conv_bind (impl_areValues_ok hl) ((M.Conv_ret _).of (by simp))
  · simp at h
    rw [decide_eq_false (by omega)]; exact M.Conv_ret _
  · refine M.Conv_bind (x := (decide (c.length ≤ 12) && c.all valB) && c.any (· != (-1000000000000000))) (M.Conv_ite (fun h => ?_) (fun h => ?_)) (M.Conv_ret _)
    · have h2 := (Bool.and_eq_true _ _ ▸ h).2
      rw [h]
      exact M.Conv_bind (impl_sumOf_ok hl) ((M.Conv_ret _).of (by rw [maxL_ne h2]; simp))
    · rw [h]; exact M.Conv_ret _
def smI (l : List Int) : Prop := l.length ≤ 1099511627776
theorem toI_ok {a : List Int} (h : smI a) : M.Conv (laws_toInt64S a) a := toInt64S_ok h
theorem eqI_refl {a : List Int} (h : smI a) : M.Conv (laws_eqInt64S a a) true := (eqInt64S_ok (by unfold smI at h; omega)).of (by simp)
theorem mul_bd {a b A B : Int} (ha : -A ≤ a ∧ a ≤ A) (hb : -B ≤ b ∧ b ≤ B) : -(A * B) ≤ a * b ∧ a * b ≤ A * B := by
  have h1 : a.natAbs ≤ A.natAbs := by omega
  have h2 : b.natAbs ≤ B.natAbs := by omega
  have h3 : (a * b).natAbs ≤ A.natAbs * B.natAbs := by rw [Int.natAbs_mul]; exact Nat.mul_le_mul h1 h2
  have hA : ((A.natAbs * B.natAbs : Nat) : Int) = A * B := by
    rw [Int.natCast_mul, Int.natAbs_of_nonneg (by omega), Int.natAbs_of_nonneg (by omega)]
  omega
theorem finB_bd {x : Int} (h : finB x = true) : -1000000 ≤ x ∧ x ≤ 1000000 := by simpa [finB] using h
theorem val_ne {x : Int} (h : valB x = true) (hn : (x == (-1000000000000000)) = false) : finB x = true := by simpa [valB, hn] using h
/-- a loop that takes elements off a list's end -/
theorem pop_loop {f : List Int → M (List Int ⊕ List Int)} (t : Int → Int → Bool) (G : List Int → Prop) (sub : ∀ x l, G (x :: l) → G l) (h1 : ∀ l, G l → l.length ≤ 1 → M.Conv (f l.reverse) (.inr l.reverse))
    (h2 : ∀ j i r, G (j :: i :: r) → M.Conv (f (j :: i :: r).reverse) (bif t j i then .inr (j :: i :: r).reverse else .inl (i :: r).reverse)) : ∀ rs, G rs → ∃ qs, G qs ∧ (∀ x ∈ qs, x ∈ rs) ∧ M.Conv (M.loop f rs.reverse) qs.reverse ∧ qs.length ≤ rs.length ∧
      (∀ (f' : List Int → M (List Int ⊕ List Int)), (∀ l, G l → l.length ≤ 1 → M.Conv (f' l.reverse) (.inr l.reverse)) → (∀ j i r, G (j :: i :: r) → M.Conv (f' (j :: i :: r).reverse) (bif t j i then .inr (j :: i :: r).reverse else .inl (i :: r).reverse)) → M.Conv (M.loop f' rs.reverse) qs.reverse) := by
  have stop : ∀ (f : List Int → M (List Int ⊕ List Int)) (s r : List Int), M.Conv (f s) (.inr r) → M.Conv (M.loop f s) r := by
    intro f s r ⟨N, h⟩
    refine ⟨max N 1, fun n hn => ?_⟩
    obtain ⟨m, rfl⟩ : ∃ m, n = m + 1 := ⟨n - 1, by omega⟩
    simp [M.loop, M.loopN, h (m + 1) (by omega)]
  have more : ∀ (f : List Int → M (List Int ⊕ List Int)) (s s' r : List Int), M.Conv (f s) (.inl s') → (∃ N m0, ∀ n, N ≤ n → ∀ m, m0 ≤ m → M.loopN f n m s' = some r) → (∃ N m0, ∀ n, N ≤ n → ∀ m, m0 ≤ m → M.loopN f n m s = some r) := by
    intro f s s' r ⟨N, h⟩ ⟨N', m0, h'⟩
    refine ⟨max N N', m0 + 1, fun n hn m hm => ?_⟩
    obtain ⟨m, rfl⟩ : ∃ q, m = q + 1 := ⟨m - 1, by omega⟩
    simp only [M.loopN, h n (by omega)]
    exact h' n (by omega) m (by omega)
  have one : ∀ (f : List Int → M (List Int ⊕ List Int)) (s r : List Int), M.Conv (f s) (.inr r) → (∃ N m0, ∀ n, N ≤ n → ∀ m, m0 ≤ m → M.loopN f n m s = some r) := by
    intro f s r ⟨N, h⟩
    refine ⟨N, 1, fun n hn m hm => ?_⟩
    obtain ⟨m, rfl⟩ : ∃ q, m = q + 1 := ⟨m - 1, by omega⟩
    simp [M.loopN, h n hn]
  have fin : ∀ (f : List Int → M (List Int ⊕ List Int)) (s r : List Int), (∃ N m0, ∀ n, N ≤ n → ∀ m, m0 ≤ m → M.loopN f n m s = some r) → M.Conv (M.loop f s) r := fun f s r ⟨N, m0, h⟩ => ⟨max N m0, fun n hn => h n (by omega) n (by omega)⟩
  suffices H : ∀ rs, G rs → ∃ qs, G qs ∧ (∀ x ∈ qs, x ∈ rs) ∧ qs.length ≤ rs.length ∧ (∀ (f' : List Int → M (List Int ⊕ List Int)), (∀ l, G l → l.length ≤ 1 → M.Conv (f' l.reverse) (.inr l.reverse)) → (∀ j i r, G (j :: i :: r) → M.Conv (f' (j :: i :: r).reverse) (bif t j i then .inr (j :: i :: r).reverse else .inl (i :: r).reverse)) →
      ∃ N m0, ∀ n, N ≤ n → ∀ m, m0 ≤ m → M.loopN f' n m rs.reverse = some qs.reverse) by
    intro rs hg
    obtain ⟨qs, a, b, c, d⟩ := H rs hg
    exact ⟨qs, a, b, fin _ _ _ (d f h1 h2), c, fun f' k1 k2 => fin _ _ _ (d f' k1 k2)⟩
  intro rs
  induction rs with
  | nil => exact fun hg => ⟨[], hg, fun _ h => h, Nat.le_refl _, fun f' k1 _ => one _ _ _ (k1 [] hg (by simp))⟩
  | cons j rs ih =>
    intro hg
    cases rs with
    | nil => exact ⟨[j], hg, fun _ h => h, Nat.le_refl _, fun f' k1 _ => one _ _ _ (k1 [j] hg (by simp))⟩
    | cons i r =>
      cases ht : t j i with
      | true => exact ⟨j :: i :: r, hg, fun _ h => h, Nat.le_refl _, fun f' _ k2 => one _ _ _ (by have := k2 j i r hg; rwa [ht] at this)⟩
      | false =>
        obtain ⟨qs, a, b, c, d⟩ := ih (sub _ _ hg)
        exact ⟨qs, a, fun x hx => List.mem_cons_of_mem _ (b x hx), Nat.le_succ_of_le c, fun f' k1 k2 => more _ _ _ _ (by have := k2 j i r hg; rwa [ht] at this) (d f' k1 k2)⟩
/-- an index below k, whose coefficient is finite -/
def termB (c : List Int) (k : Nat) (t : Int) : Prop := 0 ≤ t ∧ t < k ∧ ∃ x, c[t.toNat]? = some x ∧ finB x = true
theorem rev_last {j i : Int} {r : List Int} : (j :: i :: r).reverse[(j :: i :: r).reverse.length - 1]? = some j ∧ (j :: i :: r).reverse[(j :: i :: r).reverse.length - 2]? = some i := by
  constructor
  · simp
  · simp
theorem rev_init {j i : Int} {r : List Int} : ((j :: i :: r).reverse.drop 0).take ((j :: i :: r).reverse.length - 1) = (i :: r).reverse := by
  simp [List.take_append]
  exact List.take_of_length_le (by simp)
/-- what the loop's round reads -/
theorem reads2 {j i : Int} {r : List Int} (hlen : (j :: i :: r).length ≤ 12) : M.Conv (M.idx (j :: i :: r).reverse (w64 (((j :: i :: r).reverse.length : Int) - 2))) i ∧ M.Conv (M.idx (j :: i :: r).reverse (w64 (((j :: i :: r).reverse.length : Int) - 1))) j ∧
    M.Conv (M.sub (j :: i :: r).reverse 0 (w64 (((j :: i :: r).reverse.length : Int) - 1))) (i :: r).reverse := by
  have hl : (j :: i :: r).reverse.length = r.length + 2 := by simp
  simp only [List.length_cons] at hlen
  rw [w64_eq _ (by rw [hl]; omega), w64_eq _ (by rw [hl]; omega)]
  refine ⟨M.Conv_get (by rw [hl]; omega) ?_, M.Conv_get (by rw [hl]; omega) ?_, (M.Conv_sub (by omega) (by rw [hl]; omega) (by rw [hl]; omega)).of ?_⟩
  · have := (rev_last (j := j) (i := i) (r := r)).2
    rw [show (((j :: i :: r).reverse.length : Int) - 2).toNat = (j :: i :: r).reverse.length - 2 by omega]; exact this
  · have := (rev_last (j := j) (i := i) (r := r)).1
    rw [show (((j :: i :: r).reverse.length : Int) - 1).toNat = (j :: i :: r).reverse.length - 1 by omega]; exact this
  · rw [show (((j :: i :: r).reverse.length : Int) - 1).toNat - (0 : Int).toNat = (j :: i :: r).reverse.length - 1 by omega]; exact rev_init
/-- the rounds of the two programs, named -/
def popS (c : List Int) (i1 : Int) (s3 : List Int) : M (List Int ⊕ List Int) := M.ite (decide (1 < (s3.length : Int))) (M.bind (M.idx s3 (w64 ((s3.length : Int) - 2))) (fun x4 => M.bind (M.idx s3 (w64 ((s3.length : Int) - 1))) (fun x5 => M.bind (M.idx c x5) (fun x6 => M.bind (M.idx c x4) (fun x7 => M.bind (M.idx c i1) (fun x8 => M.bind (M.idx c x5) (fun x9 => M.ite (decide ((w64 ((w64 (x8 - x9)) * (w64 (x5 - x4)))) < (w64 ((w64 (x6 - x7)) * (w64 (i1 - x5)))))) (M.ret (.inr s3)) (M.bind (M.sub s3 0 (w64 ((s3.length : Int) - 1))) (fun x10 => M.ret (.inl x10)))))))))) (M.ret (.inr s3))
def popI (c : List Int) (i1 x2 : Int) (s3 : List Int) : M (List Int ⊕ List Int) := M.ite (decide (1 < (s3.length : Int))) (M.bind (M.idx s3 (w64 ((s3.length : Int) - 2))) (fun x4 => M.bind (M.idx s3 (w64 ((s3.length : Int) - 1))) (fun x5 => M.bind (M.idx c x5) (fun x6 => M.bind (M.idx c x4) (fun x7 => M.bind (M.idx c x4) (fun x8 => M.ite (decide ((w64 ((w64 (x2 - x8)) * (w64 (x5 - x4)))) < (w64 ((w64 (x6 - x7)) * (w64 (i1 - x4)))))) (M.ret (.inr s3)) (M.bind (M.sub s3 0 (w64 ((s3.length : Int) - 1))) (fun x9 => M.ret (.inl x9))))))))) (M.ret (.inr s3))
def hullS (c : List Int) (i1 : Int) (s1 : List Int) : M (List Int ⊕ List Int) := M.bind (M.bind (M.idx c i1) (fun x2 => M.ite (x2 == (-1000000000000000)) (M.ret s1) (M.bind (M.loop (popS c i1) s1) (fun x3 => M.bind (M.app x3 ([i1] : List Int)) (fun l1 => M.ret l1))))) (fun (s2 : (List Int)) => M.ret (.inl s2))
def hullI (c : List Int) (i1 : Int) (s1 : List Int) : M (List Int ⊕ List Int) := M.bind (M.bind (M.idx c i1) (fun x2 => M.ite (x2 == (-1000000000000000)) (M.ret s1) (M.bind (M.loop (popI c i1 x2) s1) (fun x3 => M.bind (M.app x3 ([i1] : List Int)) (fun l1 => M.ret l1))))) (fun (s2 : (List Int)) => M.ret (.inl s2))
theorem spec_l09Terms_eq (c : List Int) : spec_l09Terms c = M.bind (M.forI 0 (c.length : Int) (fun s => s) (hullS c) []) (fun x1 => M.ret x1) := rfl
theorem impl_essentialTerms_eq (c : List Int) : impl_essentialTerms c = M.bind (M.forI 0 (c.length : Int) (fun s => s) (hullI c) []) (fun x1 => M.ret x1) := rfl
def keepB (c : List Int) (k x j i : Int) : Bool := decide ((x - (c[j.toNat]?).getD 0) * (j - i) < ((c[j.toNat]?).getD 0 - (c[i.toNat]?).getD 0) * (k - j))
def GoodT (c : List Int) (k : Nat) (l : List Int) : Prop := l.length ≤ 12 ∧ (∀ t ∈ l, termB c k t) ∧ List.Pairwise (fun a b => b < a) l
theorem GoodT.reads {c : List Int} {k : Nat} {j i : Int} {r : List Int} (hk : k ≤ 12) (h : GoodT c k (j :: i :: r)) : ∃ cj ci, M.Conv (M.idx c j) cj ∧ M.Conv (M.idx c i) ci ∧ (-1000000 ≤ cj ∧ cj ≤ 1000000) ∧ (-1000000 ≤ ci ∧ ci ≤ 1000000) ∧ 0 ≤ i ∧ 0 ≤ j ∧ j < k ∧ i < k ∧ (c[j.toNat]?).getD 0 = cj ∧ (c[i.toNat]?).getD 0 = ci := by
  obtain ⟨_, hm, _⟩ := h
  obtain ⟨a1, a2, cj, a3, a4⟩ := hm j List.mem_cons_self
  obtain ⟨b1, b2, ci, b3, b4⟩ := hm i (List.mem_cons_of_mem _ List.mem_cons_self)
  exact ⟨cj, ci, M.Conv_get a1 a3, M.Conv_get b1 b3, finB_bd a4, finB_bd b4, b1, a1, a2, b2, by simp [a3], by simp [b3]⟩
theorem small_len {l : List Int} (hl : l.length ≤ 1) : decide (1 < (l.reverse.length : Int)) = false := decide_eq_false (by simp; omega)
theorem big_len (j i : Int) (r : List Int) : decide (1 < ((j :: i :: r).reverse.length : Int)) = true := decide_eq_true (by simp; omega)
theorem popS_ok {c : List Int} {k : Nat} {x j i : Int} {r : List Int} (hk : k ≤ 12) (hx : c[k]? = some x) (bx : -1000000 ≤ x ∧ x ≤ 1000000) (hg : GoodT c k (j :: i :: r)) :
    M.Conv (popS c k (j :: i :: r).reverse) (bif keepB c k x j i then .inr (j :: i :: r).reverse else .inl (i :: r).reverse) := by
  obtain ⟨cj, ci, r1, r2, b1, b2, i0, j0, j1, i1, e1, e2⟩ := hg.reads hk
  obtain ⟨q1, q2, q3⟩ := reads2 hg.1
  have hget : M.Conv (M.idx c (k : Int)) x := M.Conv_get (by omega) (by simpa using hx)
  refine M.Conv_ite (fun _ => ?_) (fun h => by rw [big_len] at h; cases h)
  refine M.Conv_bind q1 (M.Conv_bind q2 (M.Conv_bind r1 (M.Conv_bind r2 (M.Conv_bind hget (M.Conv_bind r1 ?_)))))
  have m1 := mul_bd (a := x - cj) (b := j - i) (A := 2000000) (B := 12) (by omega) (by omega)
  have m2 := mul_bd (a := cj - ci) (b := k - j) (A := 2000000) (B := 12) (by omega) (by omega)
  rw [w64_eq (x - cj) (by omega), w64_eq (j - i) (by omega), w64_eq (cj - ci) (by omega), w64_eq (k - j) (by omega), w64_eq _ (by omega), w64_eq _ (by omega)]
  have et : keepB c k x j i = decide ((x - cj) * (j - i) < (cj - ci) * (k - j)) := by simp only [keepB, e1, e2]
  rw [et]
  refine M.Conv_ite (fun h => ?_) (fun h => ?_)
  · rw [h]; exact M.Conv_ret _
  · rw [h]; exact M.Conv_bind q3 (M.Conv_ret _)
theorem popI_ok {c : List Int} {k : Nat} {x j i : Int} {r : List Int} (hk : k ≤ 12) (bx : -1000000 ≤ x ∧ x ≤ 1000000) (hg : GoodT c k (j :: i :: r)) :
    M.Conv (popI c k x (j :: i :: r).reverse) (bif keepB c k x j i then .inr (j :: i :: r).reverse else .inl (i :: r).reverse) := by
  obtain ⟨cj, ci, r1, r2, b1, b2, i0, j0, j1, i1, e1, e2⟩ := hg.reads hk
  obtain ⟨q1, q2, q3⟩ := reads2 hg.1
  refine M.Conv_ite (fun _ => ?_) (fun h => by rw [big_len] at h; cases h)
  refine M.Conv_bind q1 (M.Conv_bind q2 (M.Conv_bind r1 (M.Conv_bind r2 (M.Conv_bind r2 ?_))))
  have m1 := mul_bd (a := x - ci) (b := j - i) (A := 2000000) (B := 12) (by omega) (by omega)
  have m2 := mul_bd (a := cj - ci) (b := k - i) (A := 2000000) (B := 12) (by omega) (by omega)
  rw [w64_eq (x - ci) (by omega), w64_eq (j - i) (by omega), w64_eq (cj - ci) (by omega), w64_eq (k - i) (by omega), w64_eq _ (by omega), w64_eq _ (by omega)]
  have et : keepB c k x j i = decide ((x - ci) * (j - i) < (cj - ci) * (k - i)) := by
    simp only [keepB, e1, e2]
    congr 1
    rw [eq_iff_iff]
    have a1 : (x - ci) * (j - i) = (x - cj) * (j - i) + (cj - ci) * (j - i) := by rw [← Int.add_mul]; congr 1; omega
    have a2 : (cj - ci) * (k - i) = (cj - ci) * (k - j) + (cj - ci) * (j - i) := by rw [← Int.mul_add]; congr 1; omega
    omega
  rw [et]
  refine M.Conv_ite (fun h => ?_) (fun h => ?_)
  · rw [h]; exact M.Conv_ret _
  · rw [h]; exact M.Conv_bind q3 (M.Conv_ret _)
/-- the terms found among the first k coefficients, the last one first -/
def TermsT (c : List Int) (k : Nat) (rs : List Int) : Prop := rs.length ≤ k ∧ (∀ t ∈ rs, termB c k t) ∧ List.Pairwise (fun a b => b < a) rs ∧ ((c.take k).any (· != (-1000000000000000)) = true → rs ≠ [])
theorem hull_round {c : List Int} {k : Nat} {x : Int} {rs : List Int} (hc : c.length ≤ 12) (hv : ∀ x ∈ c, valB x = true) (hx : c[k]? = some x) (hG : TermsT c k rs) :
    ∃ rs', TermsT c (k + 1) rs' ∧ M.Conv (hullS c k rs.reverse) (.inl rs'.reverse) ∧ M.Conv (hullI c k rs.reverse) (.inl rs'.reverse) := by
  have hk := (List.getElem?_eq_some_iff.1 hx).1
  have hmem : x ∈ c := List.mem_of_getElem? hx
  have hget : M.Conv (M.idx c (k : Int)) x := M.Conv_get (by omega) (by simpa using hx)
  have htk : c.take (k + 1) = c.take k ++ [x] := by rw [List.take_add_one, hx]; rfl
  obtain ⟨g1, g2, g3, g4⟩ := hG
  have up : ∀ t, termB c k t → termB c (k + 1) t := fun t ⟨a, b, d⟩ => ⟨a, by omega, d⟩
  cases hb : (x == (-1000000000000000)) with
  | true =>
    refine ⟨rs, ⟨by omega, fun t ht => up t (g2 t ht), g3, fun h => g4 ?_⟩, ?_, ?_⟩
    · rw [htk, List.any_append] at h
      simpa [bne, hb] using h
    · exact M.Conv_bind (M.Conv_bind hget (M.Conv_ite (fun _ => M.Conv_ret _) (fun h => by rw [hb] at h; cases h))) (M.Conv_ret _)
    · exact M.Conv_bind (M.Conv_bind hget (M.Conv_ite (fun _ => M.Conv_ret _) (fun h => by rw [hb] at h; cases h))) (M.Conv_ret _)
  | false =>
    have hfx := val_ne (hv x hmem) hb
    have bx := finB_bd hfx
    have hG' : GoodT c k rs := ⟨by omega, g2, g3⟩
    have subG : ∀ x l, GoodT c k (x :: l) → GoodT c k l := fun x l ⟨a, b, d⟩ => ⟨by simp at a; omega, fun t ht => b t (List.mem_cons_of_mem _ ht), (List.pairwise_cons.1 d).2⟩
    obtain ⟨qs, q1, q2, q3, q4, q5⟩ := pop_loop (f := popS c k) (keepB c k x) (GoodT c k) subG (fun l _ hl => M.Conv_ite (fun h => by rw [small_len hl] at h; cases h) (fun _ => M.Conv_ret _)) (fun j i r hg => popS_ok (by omega) hx bx hg) rs hG'
    have q6 := q5 (popI c k x) (fun l _ hl => M.Conv_ite (fun h => by rw [small_len hl] at h; cases h) (fun _ => M.Conv_ret _)) (fun j i r hg => popI_ok (by omega) bx hg)
    have happ : M.Conv (M.app qs.reverse ([(k : Int)] : List Int)) ((k : Int) :: qs).reverse := (M.Conv_app (by simp; omega)).of (by simp)
    refine ⟨(k : Int) :: qs, ⟨by simp; omega, fun t ht => ?_, ?_, fun _ => by simp⟩, ?_, ?_⟩
    · rcases List.mem_cons.1 ht with rfl | ht
      · exact ⟨by omega, by omega, x, by simpa using hx, hfx⟩
      · exact up t (q1.2.1 t ht)
    · exact List.pairwise_cons.2 ⟨fun a ha => (q1.2.1 a ha).2.1, q1.2.2⟩
    · exact M.Conv_bind (M.Conv_bind hget (M.Conv_ite (fun h => by rw [hb] at h; cases h) (fun _ => M.Conv_bind q3 (M.Conv_bind happ (M.Conv_ret _))))) (M.Conv_ret _)
    · exact M.Conv_bind (M.Conv_bind hget (M.Conv_ite (fun h => by rw [hb] at h; cases h) (fun _ => M.Conv_bind q6 (M.Conv_bind happ (M.Conv_ret _))))) (M.Conv_ret _)
theorem hull_rounds {c : List Int} (hc : c.length ≤ 12) (hv : ∀ x ∈ c, valB x = true) : ∀ (d k : Nat) (rs : List Int), k + d = c.length → TermsT c k rs → ∃ rs', TermsT c c.length rs' ∧
    (∃ N, ∀ n, N ≤ n → M.forN (c.length : Int) (fun s => s) (hullS c) n d k rs.reverse = some rs'.reverse) ∧ (∃ N, ∀ n, N ≤ n → M.forN (c.length : Int) (fun s => s) (hullI c) n d k rs.reverse = some rs'.reverse)
  | 0, k, rs, hk, hG => by
    obtain rfl : k = c.length := by omega
    exact ⟨rs, hG, ⟨0, fun n _ => by simp [M.forN]⟩, ⟨0, fun n _ => by simp [M.forN]⟩⟩
  | d + 1, k, rs, hk, hG => by
    have hlt : k < c.length := by omega
    have hlt' : (k : Int) < (c.length : Int) := by omega
    obtain ⟨rs1, g1, ⟨N1, s1⟩, ⟨N2, s2⟩⟩ := hull_round hc hv (List.getElem?_eq_getElem hlt) hG
    obtain ⟨rs2, g2, ⟨N3, s3⟩, ⟨N4, s4⟩⟩ := hull_rounds hc hv d (k + 1) rs1 (by omega) g1
    refine ⟨rs2, g2, ⟨max N1 N3, fun n hn => ?_⟩, ⟨max N2 N4, fun n hn => ?_⟩⟩
    · simp only [M.forN, hlt', decide_true, cond_true, s1 n (by omega)]
      have := s3 n (by omega)
      simpa using this
    · simp only [M.forN, hlt', decide_true, cond_true, s2 n (by omega)]
      have := s4 n (by omega)
      simpa using this
/-- the essential terms: what both programs come to -/
theorem terms_ok {c : List Int} (hc : c.length ≤ 12) (hv : c.all valB = true) : ∃ h : List Int, M.Conv (spec_l09Terms c) h ∧ M.Conv (impl_essentialTerms c) h ∧ h.length ≤ c.length ∧ (∀ t ∈ h, termB c c.length t) ∧ (c.any (· != (-1000000000000000)) = true → h ≠ []) ∧ List.Pairwise (· < ·) h := by
  rw [List.all_eq_true] at hv
  obtain ⟨rs, ⟨g1, g2, g3, g4⟩, ⟨N1, s1⟩, ⟨N2, s2⟩⟩ := hull_rounds hc hv c.length 0 [] (by simp) ⟨by simp, by simp, List.Pairwise.nil, by simp⟩
  have hl : (c.length : Int) ≤ 9223372036854775807 := by omega
  refine ⟨rs.reverse, ?_, ?_, by simpa using g1, fun t ht => g2 t (by simpa using ht), fun h => by simpa using g4 (by simpa using h), ?_⟩
  · rw [spec_l09Terms_eq]
    refine M.Conv_bind ⟨N1, fun n hn => ?_⟩ (M.Conv_ret _)
    simp only [M.forI, hl, decide_true, Bool.and_true, show (-9223372036854775808 : Int) ≤ 0 by decide, cond_true]
    have := s1 n hn
    simpa using this
  · rw [impl_essentialTerms_eq]
    refine M.Conv_bind ⟨N2, fun n hn => ?_⟩ (M.Conv_ret _)
    simp only [M.forI, hl, decide_true, Bool.and_true, show (-9223372036854775808 : Int) ≤ 0 by decide, cond_true]
    have := s2 n hn
    simpa using this
  · rw [List.pairwise_reverse]; exact g3

/-- two programs, one answer -/
def Two {α : Type} (m m' : M α) (Post : α → Prop) : Prop := ∃ r, M.Conv m r ∧ M.Conv m' r ∧ Post r
theorem Two.mk {α : Type} {m m' : M α} {Post : α → Prop} {r : α} (h : M.Conv m r) (h' : M.Conv m' r) (p : Post r) : Two m m' Post := ⟨r, h, h', p⟩
theorem Two.ret {α : Type} {Post : α → Prop} (r : α) (p : Post r) : Two (M.ret r) (M.ret r) Post := ⟨r, M.Conv_ret _, M.Conv_ret _, p⟩
theorem Two.bind {α β : Type} {m m' : M α} {f f' : α → M β} {P : α → Prop} {Q : β → Prop} (h : Two m m' P) (g : ∀ x, P x → Two (f x) (f' x) Q) : Two (M.bind m f) (M.bind m' f') Q := by
  obtain ⟨x, h1, h2, p⟩ := h
  obtain ⟨r, g1, g2, q⟩ := g x p
  exact ⟨r, M.Conv_bind h1 g1, M.Conv_bind h2 g2, q⟩
theorem Two.bindC {α α' β : Type} {m : M α} {m' : M α'} {f : α → M β} {f' : α' → M β} {Q : β → Prop} {x : α} {x' : α'} (h : M.Conv m x) (h' : M.Conv m' x') (g : Two (f x) (f' x') Q) : Two (M.bind m f) (M.bind m' f') Q := by
  obtain ⟨r, g1, g2, q⟩ := g
  exact ⟨r, M.Conv_bind h g1, M.Conv_bind h' g2, q⟩
theorem Two.ite {α : Type} {b : Bool} {x y x' y' : M α} {Q : α → Prop} (h1 : b = true → Two x x' Q) (h2 : b = false → Two y y' Q) : Two (M.ite b x y) (M.ite b x' y') Q := by
  cases b
  · exact h2 rfl
  · exact h1 rfl
theorem polyB_len {c : List Int} (h : polyB c = true) : c.length ≤ 12 ∧ c.all valB = true ∧ c.any (· != (-1000000000000000)) = true := by
  simp only [polyB, Bool.and_eq_true, decide_eq_true_eq] at h
  exact ⟨h.1.1, h.1.2, h.2⟩
theorem eqLoop_ok {a b : List Int} (ha : a.length ≤ 9223372036854775807) (hl : a.length = b.length) : M.Conv (M.forI 0 (a.length : Int) (fun s => .inl s) (fun i1 => (fun (_ : Unit) => M.bind (M.idx a i1) (fun x2 => M.bind (M.idx b i1) (fun x3 => M.ite (x2 != x3) (M.ret (.inr (.inr false))) (M.ret (.inl ())))))) ()) (bif decide (a = b) then (.inl () : Unit ⊕ Bool) else .inr false) := by
  have h := eqInt64S_ok (b := b) ha
  refine (M.Conv_allI (fun i x => b[i]? == some x) false ha fun i x hx => ?_).of ?_
  · have hi := (List.getElem?_eq_some_iff.1 hx).1
    refine M.Conv_bind (M.Conv_get (by omega) (by simpa using hx)) ?_
    refine M.Conv_bind (M.Conv_get (x := b[i]) (by omega) (by simp [show i < b.length by omega])) ?_
    have hb : (b[i]? == some x) = !(x != b[i]) := by rw [List.getElem?_eq_getElem (by omega), bne, Bool.not_not, Option.some_beq_some, BEq.comm]
    rw [hb]
    cases (x != b[i]) <;> exact M.Conv_ret _
  · have key : ((a.zipIdx 0).all fun q => b[q.2]? == some q.1) = decide (a = b) := by
      by_cases e : a = b
      · subst e
        rw [decide_eq_true rfl, List.all_eq_true]
        rintro ⟨x, i⟩ hq
        have := List.mk_mem_zipIdx_iff_getElem?.1 hq
        simp [this]
      · rw [decide_eq_false e, Bool.eq_false_iff]
        intro h
        apply e
        rw [List.all_eq_true] at h
        refine List.ext_getElem hl fun i h1 h2 => ?_
        have := h (a[i], i) (List.mk_mem_zipIdx_iff_getElem?.2 (List.getElem?_eq_getElem h1))
        simp [h2] at this
        exact this.symm
    rw [key]
theorem spec_l01Same_ok {a b : List Int} (ha : a.length ≤ 9223372036854775807) : M.Conv (spec_l01Same a b) (decide (a = b)) := by
  unfold spec_l01Same
  refine M.Conv_ite (fun h => ?_) (fun h => ?_)
  · have : a ≠ b := by rintro rfl; simp at h
    rw [decide_eq_false this]; exact M.Conv_ret _
  · have hl : a.length = b.length := Int.ofNat.inj (by simpa using h)
    refine M.Conv_bind (eqLoop_ok ha hl) ?_
    cases decide (a = b) <;> exact M.Conv_ret _
theorem slices_Equal_int_ok {a b : List Int} (ha : a.length ≤ 9223372036854775807) : M.Conv (slices_Equal_int a b) (decide (a = b)) := by
  unfold slices_Equal_int
  refine M.Conv_ite (fun h => ?_) (fun h => ?_)
  · have : a ≠ b := by rintro rfl; simp at h
    rw [decide_eq_false this]; exact M.Conv_ret _
  · have hl : a.length = b.length := Int.ofNat.inj (by simpa using h)
    refine M.Conv_bind (eqLoop_ok ha hl) ?_
    cases decide (a = b) <;> exact M.Conv_ret _
theorem same_SameFunction (c : List Int) (gc : fitL inI64 c) (d : List Int) (gd : fitL inI64 d) (_ : smI c) (_ : smI d) : Two (spec_SameFunction c d) (impl_SameFunction c d) (fun _ => True) := by
  unfold spec_SameFunction impl_SameFunction
  refine Two.bindC (spec_IsPolynomial_ok gc.1) (impl_IsPolynomial_ok gc.1) ?_
  refine Two.bind (P := fun b => b = !(polyB c && polyB d)) (Two.ite (fun h => Two.ret _ ?_) (fun h => Two.bindC (spec_IsPolynomial_ok gd.1) (impl_IsPolynomial_ok gd.1) (Two.ret _ ?_))) ?_
  · simp at h; simp [h]
  · simp at h; simp [h]
  rintro _ rfl
  refine Two.ite (fun _ => Two.ret _ trivial) (fun h => ?_)
  simp only [Bool.not_eq_false', Bool.and_eq_true] at h
  obtain ⟨c1, c2, _⟩ := polyB_len h.1
  obtain ⟨d1, d2, _⟩ := polyB_len h.2
  obtain ⟨t, t1, t2, t3, t4, _⟩ := terms_ok c1 c2
  obtain ⟨u, u1, u2, u3, u4, _⟩ := terms_ok d1 d2
  refine Two.bindC t1 t2 (Two.bindC u1 u2 (Two.bindC (spec_l01Same_ok (by omega)) (slices_Equal_int_ok (by omega)) (Two.ite (fun _ => Two.ret _ trivial) (fun e => ?_))))
  have e : t = u := by simpa using e
  subst e
  have rd : ∀ (i : Nat) x, t[i]? = some x → ∃ a b, M.Conv (M.idx c x) a ∧ M.Conv (M.idx d x) b ∧ (c[x.toNat]? = d[x.toNat]?) = (a = b) := by
    intro i x hx
    obtain ⟨p1, p2, a, p3, _⟩ := t4 x (List.mem_of_getElem? hx)
    obtain ⟨q1, q2, b, q3, _⟩ := u4 x (List.mem_of_getElem? hx)
    exact ⟨a, b, M.Conv_get p1 p3, M.Conv_get q1 q3, by rw [p3, q3]; simp⟩
  unfold slices_ContainsFunc_int_F_impl_SameFunction_1 slices_IndexFunc_int_F_impl_SameFunction_1
  refine Two.mk (r := (t.all fun x => decide (c[x.toNat]? = d[x.toNat]?), 0)) ?_ ?_ trivial
  · refine M.Conv_bind (M.Conv_all (fun x => decide (c[x.toNat]? = d[x.toNat]?)) (false, 0) (by omega) fun i x hx => ?_) ?_
    · obtain ⟨a, b, ha, hb, he⟩ := rd i x hx
      have hx' : M.Conv (M.idx t i) x := M.Conv_get (by omega) (by simpa using hx)
      refine M.Conv_bind hx' (M.Conv_bind ha (M.Conv_bind hx' (M.Conv_bind hb ?_)))
      simp only [he]
      rw [show decide (a = b) = !(a != b) by simp [bne]; rfl]
      cases (a != b) <;> exact M.Conv_ret _
    · cases (t.all fun x => decide (c[x.toNat]? = d[x.toNat]?)) <;> exact M.Conv_ret _
  · refine M.Conv_bind (contains_ok (fun x => !decide (c[x.toNat]? = d[x.toNat]?)) (by omega) fun i x hx => ?_) ((M.Conv_ret _).of (by rw [any_not]))
    obtain ⟨a, b, ha, hb, he⟩ := rd i x hx
    have hx' : M.Conv (M.idx t i) x := M.Conv_get (by omega) (by simpa using hx)
    refine M.Conv_bind hx' (M.Conv_bind (x := (a != b)) (M.Conv_bind ha (M.Conv_bind hb (M.Conv_ret _))) ?_)
    simp only [he]
    rw [show (!decide (a = b)) = (a != b) by simp [bne]; rfl]
    cases (a != b) <;> exact M.Conv_ret _

theorem FnExactSameFunction_ok (aC : List Int) (gaC : fitL inI64 aC) (aD : List Int) (gaD : fitL inI64 aD) : M.Conv (laws_FnExactSameFunction aC aD) true := by
  unfold laws_FnExactSameFunction
  refine M.Conv_ite (fun _ => M.Conv_ret _) (fun qaC => ?_)
  have saC : smI aC := by have := of_decide_eq_false qaC; unfold smI; omega
  refine M.Conv_ite (fun _ => M.Conv_ret _) (fun qaD => ?_)
  have saD : smI aD := by have := of_decide_eq_false qaD; unfold smI; omega
  refine M.Conv_bind (toI_ok saC) ?_
  refine M.Conv_bind (toI_ok saD) ?_
  obtain ⟨w, hS, hI, hw⟩ := same_SameFunction aC gaC aD gaD saC saD
  refine M.Conv_bind hS ?_
  refine M.Conv_bind (toI_ok saC) ?_
  refine M.Conv_bind (toI_ok saD) ?_
  refine M.Conv_bind hI ?_
  refine M.Conv_ite (fun q => ?_) (fun _ => ?_)
  · exfalso; revert q; simp
  refine M.Conv_bind (toI_ok saC) ?_
  refine M.Conv_bind (eqI_refl saC) ?_
  refine M.Conv_ite (fun q => ?_) (fun _ => ?_)
  · exfalso; revert q; simp
  refine M.Conv_bind (toI_ok saD) ?_
  refine M.Conv_bind (eqI_refl saD) ?_
  refine M.Conv_ite (fun q => ?_) (fun _ => ?_)
  · exfalso; revert q; simp
  exact M.Conv_ret _

end Go.Proofs.Ytdgehhbgjmgjjaa
