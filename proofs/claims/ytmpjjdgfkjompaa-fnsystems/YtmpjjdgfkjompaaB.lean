/-
  Plain proofs: the plain program of the law ends with true.
  Conditions: None beyond the given statement.
-/
import Derived.Test.YtmpjjdgfkjompaaP
namespace Go.Proofs.Ytmpjjdgfkjompaa
open Go
/-! ### plain programs: loops over a list -/
namespace M
variable {α β σ ρ : Type}
/-- rounds over the elements of a list, each with its place; a round may leave -/
def run (g : Nat → α → σ → σ ⊕ ρ) (fin : σ → ρ) : Nat → List α → σ → ρ
  | _, [], s => fin s
  | i, x :: xs, s => match g i x s with
    | .inl s' => run g fin (i + 1) xs s'
    | .inr r => r
theorem Conv_forN {l : List α} {f : Int → σ → M (σ ⊕ ρ)} (g : Nat → α → σ → σ ⊕ ρ) (fin : σ → ρ) (I : Nat → σ → Prop) (hi : Int) :
    ∀ (xs : List α) (i : Nat) (s : σ), hi = (i + xs.length : Nat) → I i s → (∀ (j : Nat) x s, xs[j]? = some x → I (i + j) s → Conv (f (i + j : Nat) s) (g (i + j) x s) ∧ ∀ s', g (i + j) x s = .inl s' → I (i + j + 1) s') →
      ∃ N, ∀ n, N ≤ n → forN hi fin f n xs.length i s = some (run g fin i xs s)
  | [], i, s, hh, _, _ => ⟨0, fun n _ => by
      have : ¬ (i : Int) < hi := by rw [hh]; simp
      simp [forN, run, this]⟩
  | x :: xs, i, s, hh, h0, H => by
    have hlt : (i : Int) < hi := by rw [hh]; simp; omega
    obtain ⟨⟨N, hN⟩, hI⟩ := H 0 x s rfl h0
    simp only [Nat.add_zero] at hN hI
    cases hg : g i x s with
    | inl s' =>
      have hi' := hI s' hg
      obtain ⟨N', hN'⟩ := Conv_forN (l := l) g fin I hi xs (i + 1) s' (by rw [hh, List.length_cons]; congr 1; omega) hi' (fun j y s hy hIs => by
        have := H (j + 1) y s (by simpa using hy) (by rw [← Nat.add_assoc, Nat.add_right_comm]; exact hIs)
        rw [show i + (j + 1) = i + 1 + j by omega] at this
        exact this)
      refine ⟨max N N', fun n hn => ?_⟩
      have h1 := hN n (by omega)
      rw [hg] at h1
      simp only [List.length_cons, forN, hlt, decide_true, cond_true, h1, run, hg]
      have := hN' n (by omega)
      simpa using this
    | inr r =>
      refine ⟨N, fun n hn => ?_⟩
      have h1 := hN n hn
      rw [hg] at h1
      simp only [List.length_cons, forN, hlt, decide_true, cond_true, h1, run, hg]
/-- a loop over a list, with an invariant -/
theorem Conv_forI {l : List α} {f : Int → σ → M (σ ⊕ ρ)} {fin : σ → ρ} {s : σ} (g : Nat → α → σ → σ ⊕ ρ) (I : Nat → σ → Prop) (hl : l.length ≤ 9223372036854775807) (h0 : I 0 s)
    (H : ∀ (i : Nat) x s, l[i]? = some x → I i s → Conv (f i s) (g i x s) ∧ ∀ s', g i x s = .inl s' → I (i + 1) s') : Conv (forI 0 (l.length : Int) fin f s) (run g fin 0 l s) := by
  obtain ⟨N, hN⟩ := Conv_forN (l := l) (f := f) g fin I (l.length : Int) l 0 s (by simp) h0 (fun j x s hx hI => by simpa using H j x s hx (by simpa using hI))
  refine ⟨N, fun n hn => ?_⟩
  have h1 : (l.length : Int) ≤ 9223372036854775807 := by omega
  simp only [forI, h1, decide_true, Bool.and_true, show (-9223372036854775808 : Int) ≤ 0 by decide, cond_true]
  have := hN n hn
  simpa using this
/-- .. without one -/
theorem Conv_forL {l : List α} {f : Int → σ → M (σ ⊕ ρ)} {fin : σ → ρ} {s : σ} (g : Nat → α → σ → σ ⊕ ρ) (hl : l.length ≤ 9223372036854775807)
    (H : ∀ (i : Nat) x s, l[i]? = some x → Conv (f i s) (g i x s)) : Conv (forI 0 (l.length : Int) fin f s) (run g fin 0 l s) :=
  Conv_forI g (fun _ _ => True) hl trivial fun i x s hx _ => ⟨H i x s hx, fun _ _ => trivial⟩
theorem Conv.of {m : M α} {r r' : α} (h : Conv m r) (e : r = r') : Conv m r' := e ▸ h
theorem Conv_ite {b : Bool} {x y : M α} {r : α} (h1 : b = true → Conv x r) (h2 : b = false → Conv y r) : Conv (ite b x y) r := by
  cases b
  · exact h2 rfl
  · exact h1 rfl
theorem Conv_ite2 {b : Bool} {x y : M α} {r s : α} (h1 : b = true → Conv x r) (h2 : b = false → Conv y s) : Conv (ite b x y) (bif b then r else s) := by
  cases b
  · exact h2 rfl
  · exact h1 rfl
theorem Conv_guard {b : Bool} (h : b = true) : Conv (guard b) () := ⟨0, fun _ _ => by simp [guard, h]⟩
theorem Conv_upd {l : List α} {i : Nat} {x : α} (h : i < l.length) : Conv (upd l i x) (l.set i x) := ⟨0, fun _ _ => by simp [upd, h]⟩
theorem Conv_get {l : List α} {i : Int} {x : α} (h0 : 0 ≤ i) (h : l[i.toNat]? = some x) : Conv (idx l i) x := ⟨0, fun _ _ => by simp [idx, h0, h]⟩
/-- a value told in both ways of a test, then the rest -/
theorem Conv_bite {b : Bool} {x y : M α} {f : α → M β} {u v : α} {r : β} (h1 : b = true → Conv x u) (h2 : b = false → Conv y v) (g : Conv (f (bif b then u else v)) r) : Conv (bind (ite b x y) f) r :=
  Conv_bind (Conv_ite2 h1 h2) g

/-! searches: a loop that leaves at the first element of a kind -/
theorem run_all (p : α → Bool) (u : Unit ⊕ ρ) : ∀ (i : Nat) (l : List α), run (ρ := Unit ⊕ ρ) (fun _ x _ => bif p x then .inl () else .inr u) (fun s => .inl s) i l () = bif l.all p then .inl () else u
  | _, [] => rfl
  | i, x :: xs => by
    simp only [run, List.all_cons]
    cases p x
    · rfl
    · simpa using run_all p u (i + 1) xs
/-- 'for .. if not p x, return v' -/
theorem Conv_all {l : List α} {f : Int → Unit → M (Unit ⊕ (Unit ⊕ ρ))} (p : α → Bool) (v : ρ) (hl : l.length ≤ 9223372036854775807) (H : ∀ (i : Nat) x, l[i]? = some x → Conv (f i ()) (bif p x then .inl () else .inr (.inr v))) :
    Conv (forI 0 (l.length : Int) (fun s => .inl s) f ()) (bif l.all p then .inl () else .inr v) :=
  (Conv_forL (fun _ x _ => bif p x then .inl () else .inr (.inr v)) hl fun i x _ hx => H i x hx).of (run_all p (.inr v) 0 l)
/-- the same, where the element's place matters to the test -/
theorem run_allI (p : Nat → α → Bool) (u : Unit ⊕ ρ) : ∀ (i : Nat) (l : List α), run (ρ := Unit ⊕ ρ) (fun j x _ => bif p j x then .inl () else .inr u) (fun s => .inl s) i l () = bif (l.zipIdx i).all (fun q => p q.2 q.1) then .inl () else u
  | _, [] => rfl
  | i, x :: xs => by
    simp only [run, List.zipIdx_cons, List.all_cons]
    cases p i x
    · rfl
    · simpa using run_allI p u (i + 1) xs
theorem Conv_allI {l : List α} {f : Int → Unit → M (Unit ⊕ (Unit ⊕ ρ))} (p : Nat → α → Bool) (v : ρ) (hl : l.length ≤ 9223372036854775807) (H : ∀ (i : Nat) x, l[i]? = some x → Conv (f i ()) (bif p i x then .inl () else .inr (.inr v))) :
    Conv (forI 0 (l.length : Int) (fun s => .inl s) f ()) (bif (l.zipIdx 0).all (fun q => p q.2 q.1) then .inl () else .inr v) :=
  (Conv_forL (fun j x _ => bif p j x then .inl () else .inr (.inr v)) hl fun i x _ hx => H i x hx).of (run_allI p (.inr v) 0 l)
/-- 'for i .. if p x, return i' -/
theorem run_find (p : α → Bool) : ∀ (i : Nat) (l : List α), run (σ := Unit) (ρ := Unit ⊕ Int) (fun j x _ => bif p x then .inr (.inr (j : Int)) else .inl ()) (fun s => .inl s) i l () = match l.findIdx? p with
    | some j => .inr ((i + j : Nat) : Int)
    | none => .inl ()
  | _, [] => rfl
  | i, x :: xs => by
    simp only [run, List.findIdx?_cons]
    cases hp : p x
    · simp only [cond_false, run_find p (i + 1) xs, Bool.false_eq_true, if_false]
      cases xs.findIdx? p with
      | none => rfl
      | some j => simp only [Option.map_some]; congr 2; omega
    · simp
theorem Conv_find {l : List α} {f : Int → Unit → M (Unit ⊕ (Unit ⊕ Int))} (p : α → Bool) (hl : l.length ≤ 9223372036854775807) (H : ∀ (i : Nat) x, l[i]? = some x → Conv (f i ()) (bif p x then .inr (.inr (i : Int)) else .inl ())) :
    Conv (forI 0 (l.length : Int) (fun s => .inl s) f ()) (match l.findIdx? p with | some j => .inr (j : Int) | none => .inl ()) :=
  (Conv_forL (fun j x _ => bif p x then .inr (.inr (j : Int)) else .inl ()) hl fun i x _ hx => H i x hx).of (by rw [run_find]; simp)
/-- sums: each round turns what has been gathered -/
theorem run_fold (g : σ → α → σ) : ∀ (i : Nat) (l : List α) (s : σ), run (fun _ x s => .inl (g s x)) (fun s => s) i l s = l.foldl g s
  | _, [], _ => rfl
  | i, x :: xs, s => by simpa [run] using run_fold g (i + 1) xs (g s x)
theorem Conv_fold {l : List α} {f : Int → σ → M (σ ⊕ σ)} {s : σ} (g : σ → α → σ) (hl : l.length ≤ 9223372036854775807) (H : ∀ (i : Nat) x s, l[i]? = some x → Conv (f i s) (.inl (g s x))) :
    Conv (forI 0 (l.length : Int) (fun s => s) f s) (l.foldl g s) :=
  (Conv_forL (fun _ x s => .inl (g s x)) hl fun i x s hx => H i x s hx).of (run_fold g 0 l s)
theorem get_set_append {l r : List α} {x y : α} : (l ++ y :: r).set l.length x = l ++ x :: r := by simp
/-- a loop that fills a list of the same length, element by element -/
theorem run_fill (g : Nat → α → β) (z : β) : ∀ (i : Nat) (l : List α) (d : List β), d.length = i →
    run (fun j x s => .inl (s.set j (g j x))) (fun s => s) i l (d ++ List.replicate l.length z) = d ++ (l.zipIdx i).map (fun q => g q.2 q.1)
  | _, [], d, _ => by simp [run]
  | i, x :: xs, d, hd => by
    subst hd
    simp only [run, List.length_cons, List.replicate_succ, get_set_append]
    have := run_fill g z (d.length + 1) xs (d ++ [g d.length x]) (by simp)
    simp only [List.append_assoc, List.singleton_append] at this
    rw [this]
    simp
theorem Conv_fill {l : List α} {f : Int → List β → M (List β ⊕ List β)} (g : Nat → α → β) (z : β) (hl : l.length ≤ 9223372036854775807)
    (H : ∀ (i : Nat) x s, l[i]? = some x → s.length = l.length → Conv (f i s) (.inl (s.set i (g i x)))) :
    Conv (forI 0 (l.length : Int) (fun s => s) f (List.replicate l.length z)) ((l.zipIdx 0).map (fun q => g q.2 q.1)) := by
  refine (Conv_forI (fun j x s => .inl (s.set j (g j x))) (fun _ s => s.length = l.length) hl (by simp) fun i x s hx hI => ⟨H i x s hx hI, fun s' e => ?_⟩).of ?_
  · cases e; simpa using hI
  · simpa using run_fill g z 0 l [] rfl
theorem zipIdx_map_fst {l : List α} {g : α → β} {i : Nat} : ((l.zipIdx i).map fun q => g q.1) = l.map g := by
  have h : List.map (g ∘ Prod.fst) (l.zipIdx i) = List.map g l := by rw [← List.map_map, List.zipIdx_map_fst]
  exact h
theorem findIdx_any {l : List α} {p : α → Bool} : (decide ((0:Int) ≤ match l.findIdx? p with | some j => (j : Int) | none => -1)) = l.any p := by
  cases h : l.findIdx? p with
  | none => rw [List.findIdx?_eq_none_iff] at h; simp; exact fun x hx => by simpa using h x hx
  | some j =>
    obtain ⟨hj, hp, _⟩ := List.findIdx?_eq_some_iff_getElem.1 h
    simp
    exact ⟨_, List.getElem_mem hj, hp⟩
end M
def finB (x : Int) : Bool := decide (-1000000 ≤ x) && decide (x ≤ 1000000)
def valB (x : Int) : Bool := x == (-1000000000000000) || finB x
theorem eqInt64S_ok {a b : List Int} (ha : a.length ≤ 9223372036854775807) : M.Conv (laws_eqInt64S a b) (decide (a = b)) := by
  unfold laws_eqInt64S
  refine M.Conv_ite (fun h => ?_) (fun h => ?_)
  · have : a ≠ b := by rintro rfl; simp at h
    rw [decide_eq_false this]; exact M.Conv_ret _
  · have hl : a.length = b.length := Int.ofNat.inj (by simpa using h)
    refine M.Conv_bind (M.Conv_allI (fun i x => b[i]? == some x) false ha fun i x hx => ?_) ?_
    · have hi := (List.getElem?_eq_some_iff.1 hx).1
      refine M.Conv_bind (M.Conv_get (by omega) (by simpa using hx)) ?_
      refine M.Conv_bind (M.Conv_get (x := b[i]) (by omega) (by simp [show i < b.length by omega])) ?_
      have hb : (b[i]? == some x) = !(x != b[i]) := by rw [List.getElem?_eq_getElem (by omega), bne, Bool.not_not, Option.some_beq_some, BEq.comm]
      rw [hb]
      cases (x != b[i]) <;> exact M.Conv_ret _
    · have key : ((a.zipIdx 0).all fun q => b[q.2]? == some q.1) = decide (a = b) := by
        by_cases e : a = b
        · subst e
          rw [decide_eq_true rfl, List.all_eq_true]
          rintro ⟨x, i⟩ hq
          have := List.mk_mem_zipIdx_iff_getElem?.1 hq
          simp [this]
        · rw [decide_eq_false e, Bool.eq_false_iff]
          intro h
          apply e
          rw [List.all_eq_true] at h
          refine List.ext_getElem hl fun i h1 h2 => ?_
          have := h (a[i], i) (List.mk_mem_zipIdx_iff_getElem?.2 (List.getElem?_eq_getElem h1))
          simp [h2] at this
          exact this.symm
      rw [key]
      cases decide (a = b) <;> exact M.Conv_ret _
theorem spec_l01In_ok (x lo hi : Int) : M.Conv (spec_l01In x lo hi) (decide (lo ≤ x) && decide (x ≤ hi)) := M.Conv_ret _
theorem spec_l01Finite_ok (x : Int) : M.Conv (spec_l01Finite x) (finB x) := M.Conv_bind (spec_l01In_ok _ _ _) (M.Conv_ret _)
theorem spec_IsValue_ok (x : Int) : M.Conv (spec_IsValue x) (valB x) := by
  unfold spec_IsValue
  refine M.Conv_bind (M.Conv_ite (r := valB x) (fun h => ?_) (fun h => ?_)) (M.Conv_ret _)
  · simp only [valB, h, Bool.true_or]; exact M.Conv_ret _
  · simp only [valB, h, Bool.false_or]; exact M.Conv_bind (spec_l01Finite_ok x) (M.Conv_ret _)
theorem spec_l01All_ok {l : List Int} (f : Bool) (hl : l.length ≤ 9223372036854775807) : M.Conv (spec_l01All l f) (l.all fun x => valB x && !(f && x == (-1000000000000000))) := by
  unfold spec_l01All
  refine M.Conv_bind (M.Conv_all (fun x => valB x && !(f && x == (-1000000000000000))) false hl fun i x hx => ?_) ?_
  · refine M.Conv_bind (M.Conv_get (by omega) (by simpa using hx)) (M.Conv_bind (spec_IsValue_ok x) ?_)
    refine M.Conv_bind (x := !(valB x && !(f && x == (-1000000000000000)))) (M.Conv_ite (fun h => ?_) (fun h => ?_)) ?_
    · simp at h; simp [h]; exact M.Conv_ret _
    · simp at h
      refine M.Conv_bind (x := (f && x == (-1000000000000000))) (M.Conv_ite (fun h => ?_) (fun h => ?_)) (by simp [h]; exact M.Conv_ret _)
      · simp [h]; exact M.Conv_bind (M.Conv_get (by omega) (by simpa using hx)) (M.Conv_ret _)
      · simp [h]; exact M.Conv_ret _
    · cases (valB x && !(f && x == (-1000000000000000))) <;> exact M.Conv_ret _
  · cases (l.all fun x => valB x && !(f && x == (-1000000000000000))) <;> exact M.Conv_ret _
theorem impl_within_ok (x lo hi : Int) : M.Conv (impl_within x lo hi) (decide (lo ≤ x) && decide (x ≤ hi)) := M.Conv_ret _
theorem impl_isFinite_ok (x : Int) : M.Conv (impl_isFinite x) (finB x) := M.Conv_bind (impl_within_ok _ _ _) (M.Conv_ret _)
theorem impl_IsValue_ok (x : Int) : M.Conv (impl_IsValue x) (valB x) := by
  unfold impl_IsValue
  refine M.Conv_bind (M.Conv_ite (r := valB x) (fun h => ?_) (fun h => ?_)) (M.Conv_ret _)
  · simp only [valB, h, Bool.true_or]; exact M.Conv_ret _
  · simp only [valB, h, Bool.false_or]; exact M.Conv_bind (impl_isFinite_ok x) (M.Conv_ret _)
/-- 'slices.ContainsFunc', behind 'slices.IndexFunc' -/
theorem contains_ok {α : Type} {l : List α} {f : Int → Unit → M (Unit ⊕ (Unit ⊕ Int))} (p : α → Bool) (hl : l.length ≤ 9223372036854775807) (H : ∀ (i : Nat) x, l[i]? = some x → M.Conv (f i ()) (bif p x then .inr (.inr (i : Int)) else .inl ())) :
    M.Conv (M.bind (M.bind (M.forI 0 (l.length : Int) (fun s => .inl s) f ()) (fun x1 => M.cont x1 (fun _ => M.ret (-1)) (fun r => M.ret r))) (fun x1 => M.ret (decide (0 ≤ x1)))) (l.any p) := by
  rw [← M.findIdx_any]
  refine M.Conv_bind (M.Conv_bind (M.Conv_find p hl H) ?_) (M.Conv_ret _)
  cases l.findIdx? p <;> exact M.Conv_ret _
theorem any_not {α : Type} {l : List α} {p : α → Bool} : (!l.any fun x => !p x) = l.all p := by
  induction l with
  | nil => rfl
  | cons x xs ih => simp only [List.any_cons, List.all_cons, Bool.not_or, Bool.not_not, ih]
theorem impl_areValues_ok {l : List Int} (hl : l.length ≤ 9223372036854775807) : M.Conv (impl_areValues l) (l.all valB) := by
  unfold impl_areValues slices_ContainsFunc_int_F_impl_areValues_1 slices_IndexFunc_int_F_impl_areValues_1
  refine M.Conv_bind (contains_ok (fun x => !valB x) hl fun i x hx => ?_) ((M.Conv_ret _).of any_not)
  refine M.Conv_bind (M.Conv_get (by omega) (by simpa using hx)) ?_
  refine M.Conv_bind (x := !valB x) (M.Conv_bind (impl_IsValue_ok x) (M.Conv_ret _)) ?_
  cases valB x <;> exact M.Conv_ret _
theorem mx_eq (a b : Int) : mx a b = max a b := by unfold mx; split <;> omega
def smI (l : List Int) : Prop := l.length ≤ 1099511627776
theorem finB_bd {x : Int} (h : finB x = true) : -1000000 ≤ x ∧ x ≤ 1000000 := by simpa [finB] using h
theorem val_ne {x : Int} (h : valB x = true) (hn : (x == (-1000000000000000)) = false) : finB x = true := by simpa [valB, hn] using h
/-- two programs, one answer -/
def Two {α : Type} (m m' : M α) (Post : α → Prop) : Prop := ∃ r, M.Conv m r ∧ M.Conv m' r ∧ Post r
theorem Two.ret {α : Type} {Post : α → Prop} (r : α) (p : Post r) : Two (M.ret r) (M.ret r) Post := ⟨r, M.Conv_ret _, M.Conv_ret _, p⟩
theorem Two.bind {α β : Type} {m m' : M α} {f f' : α → M β} {P : α → Prop} {Q : β → Prop} (h : Two m m' P) (g : ∀ x, P x → Two (f x) (f' x) Q) : Two (M.bind m f) (M.bind m' f') Q := by
  obtain ⟨x, h1, h2, p⟩ := h
  obtain ⟨r, g1, g2, q⟩ := g x p
  exact ⟨r, M.Conv_bind h1 g1, M.Conv_bind h2 g2, q⟩
theorem Two.bindC {α α' β : Type} {m : M α} {m' : M α'} {f : α → M β} {f' : α' → M β} {Q : β → Prop} {x : α} {x' : α'} (h : M.Conv m x) (h' : M.Conv m' x') (g : Two (f x) (f' x') Q) : Two (M.bind m f) (M.bind m' f') Q := by
  obtain ⟨r, g1, g2, q⟩ := g
  exact ⟨r, M.Conv_bind h g1, M.Conv_bind h' g2, q⟩
theorem Two.left {α β : Type} {m : M α} {m' : M β} {f : α → M β} {Q : β → Prop} {x : α} (h : M.Conv m x) (g : Two (f x) m' Q) : Two (M.bind m f) m' Q := by
  obtain ⟨r, g1, g2, q⟩ := g
  exact ⟨r, M.Conv_bind h g1, g2, q⟩
theorem Two.right {α β : Type} {m : M α} {m' : M β} {f : α → M β} {Q : β → Prop} {x : α} (h : M.Conv m x) (g : Two m' (f x) Q) : Two m' (M.bind m f) Q := by
  obtain ⟨r, g1, g2, q⟩ := g
  exact ⟨r, g1, M.Conv_bind h g2, q⟩
theorem Two.ite {α : Type} {b : Bool} {x y x' y' : M α} {Q : α → Prop} (h1 : b = true → Two x x' Q) (h2 : b = false → Two y y' Q) : Two (M.ite b x y) (M.ite b x' y') Q := by
  cases b
  · exact h2 rfl
  · exact h1 rfl
theorem Two.iteL {α : Type} {b : Bool} {x y m' : M α} {Q : α → Prop} (h1 : b = true → Two x m' Q) (h2 : b = false → Two y m' Q) : Two (M.ite b x y) m' Q := by
  cases b
  · exact h2 rfl
  · exact h1 rfl
theorem Two.iteR {α : Type} {b : Bool} {x y m' : M α} {Q : α → Prop} (h1 : b = true → Two m' x Q) (h2 : b = false → Two m' y Q) : Two m' (M.ite b x y) Q := by
  cases b
  · exact h2 rfl
  · exact h1 rfl
theorem two_forN {σ ρ : Type} {hi : Int} {fin : σ → ρ} {f f' : Int → σ → M (σ ⊕ ρ)} {Post : ρ → Prop} (I : Int → σ → Prop) (lo : Int)
    (round : ∀ i s, lo ≤ i → i < hi → I i s → Two (f i s) (f' i s) fun y => (∃ s', y = .inl s' ∧ I (i + 1) s') ∨ (∃ r, y = .inr r ∧ Post r)) :
    ∀ (d : Nat) (i : Int) (s : σ), (hi - i).toNat = d → lo ≤ i → (i ≤ hi ∨ i = lo) → I i s → (∀ i s, (i = hi ∨ i = lo ∧ hi ≤ lo) → I i s → Post (fin s)) → ∃ r, (∃ N, ∀ n, N ≤ n → M.forN hi fin f n d i s = some r) ∧ (∃ N, ∀ n, N ≤ n → M.forN hi fin f' n d i s = some r) ∧ Post r
  | 0, i, s, hd, h1, h2, hI, fi => by
    have hge : ¬ i < hi := by omega
    exact ⟨fin s, ⟨0, fun n _ => by simp [M.forN, hge]⟩, ⟨0, fun n _ => by simp [M.forN, hge]⟩, fi i s (by omega) hI⟩
  | d + 1, i, s, hd, h1, h2, hI, fi => by
    have hlt : i < hi := by omega
    obtain ⟨y, ⟨N, hy⟩, ⟨N', hy'⟩, hc⟩ := round i s h1 hlt hI
    rcases hc with ⟨s', rfl, hI'⟩ | ⟨r, rfl, hp⟩
    · obtain ⟨r, ⟨N1, h3⟩, ⟨N2, h4⟩, hp⟩ := two_forN (fin := fin) I lo round d (i + 1) s' (by omega) (by omega) (by omega) hI' fi
      exact ⟨r, ⟨max N N1, fun n hn => by simp [M.forN, hlt, hy n (by omega), h3 n (by omega)]⟩, ⟨max N' N2, fun n hn => by simp [M.forN, hlt, hy' n (by omega), h4 n (by omega)]⟩, hp⟩
    · exact ⟨r, ⟨N, fun n hn => by simp [M.forN, hlt, hy n hn]⟩, ⟨N', fun n hn => by simp [M.forN, hlt, hy' n hn]⟩, hp⟩
theorem Two.for {σ ρ : Type} {lo hi : Int} {fin : σ → ρ} {f f' : Int → σ → M (σ ⊕ ρ)} {s : σ} {Post : ρ → Prop} (I : Int → σ → Prop) (hlo : -9223372036854775808 ≤ lo) (hhi : hi ≤ 9223372036854775807) (h0 : I lo s)
    (round : ∀ i s, lo ≤ i → i < hi → I i s → Two (f i s) (f' i s) fun y => (∃ s', y = .inl s' ∧ I (i + 1) s') ∨ (∃ r, y = .inr r ∧ Post r)) (done : ∀ i s, (i = hi ∨ i = lo ∧ hi ≤ lo) → I i s → Post (fin s)) :
    Two (M.forI lo hi fin f s) (M.forI lo hi fin f' s) Post := by
  obtain ⟨r, ⟨N, h1⟩, ⟨N', h2⟩, hp⟩ := two_forN (fin := fin) I lo round _ lo s rfl (Int.le_refl _) (.inr rfl) h0 done
  exact ⟨r, ⟨N, fun n hn => by simp [M.forI, hlo, hhi, h1 n hn]⟩, ⟨N', fun n hn => by simp [M.forI, hlo, hhi, h2 n hn]⟩, hp⟩
def timesI (a b : Int) : Int := bif (a == (-1000000000000000)) || (b == (-1000000000000000)) then (-1000000000000000) else w64 (a + b)
theorem spec_l01Times_ok (a b : Int) : M.Conv (spec_l01Times a b) (timesI a b) := M.Conv_ite2 (fun _ => M.Conv_ret _) (fun _ => M.Conv_ret _)
theorem impl_times_ok (a b : Int) : M.Conv (impl_times a b) (timesI a b) := M.Conv_ite2 (fun _ => M.Conv_ret _) (fun _ => M.Conv_ret _)
/-- a vector: one to ten values -/
def vecB (x : List Int) : Bool := decide (1 ≤ x.length) && decide (x.length ≤ 10) && x.all valB
theorem spec_l02Vector_ok {x : List Int} (hl : x.length ≤ 9223372036854775807) : M.Conv (spec_l02Vector x) (vecB x) := by
  unfold spec_l02Vector
  refine M.Conv_bind (spec_l01In_ok _ _ _) (M.Conv_bind (x := vecB x) (M.Conv_ite (fun h => ?_) (fun h => ?_)) (M.Conv_ret _))
  · refine M.Conv_bind (spec_l01All_ok false hl) ((M.Conv_ret _).of ?_)
    simp at h
    simp [vecB, show 1 ≤ x.length by omega, show x.length ≤ 10 by omega]
  · refine (M.Conv_ret _).of ?_
    simp only [vecB]
    rw [show (decide (1 ≤ x.length) && decide (x.length ≤ 10)) = false by rw [← h]; congr 1 <;> simp <;> omega]; rfl
theorem impl_isVector_ok {x : List Int} (hl : x.length ≤ 9223372036854775807) : M.Conv (impl_isVector x) (vecB x) := by
  unfold impl_isVector
  refine M.Conv_bind (impl_within_ok _ _ _) (M.Conv_bind (x := vecB x) (M.Conv_ite (fun h => ?_) (fun h => ?_)) (M.Conv_ret _))
  · refine M.Conv_bind (impl_areValues_ok hl) ((M.Conv_ret _).of ?_)
    simp at h
    simp [vecB, show 1 ≤ x.length by omega, show x.length ≤ 10 by omega]
  · refine (M.Conv_ret _).of ?_
    simp only [vecB]
    rw [show (decide (1 ≤ x.length) && decide (x.length ≤ 10)) = false by rw [← h]; congr 1 <;> simp <;> omega]; rfl
theorem impl_checkedVector_ok {x : List Int} (hl : x.length ≤ 9223372036854775807) : M.Conv (impl_checkedVector x) (bif x.all valB then (x, 0) else ([], 3)) := by
  unfold impl_checkedVector
  refine M.Conv_bind (impl_areValues_ok hl) (M.Conv_ite (fun h => ?_) (fun h => ?_))
  · simp only [Bool.not_eq_true'] at h; rw [h]; exact M.Conv_ret _
  · simp only [Bool.not_eq_false'] at h; rw [h]; exact M.Conv_ret _
theorem impl_checkedValue_ok (a : Int) : M.Conv (impl_checkedValue a) (bif valB a then (a, 0) else (0, 3)) := by
  refine M.Conv_bind (impl_IsValue_ok a) (M.Conv_ite (fun h => ?_) (fun h => ?_))
  · simp only [Bool.not_eq_true'] at h; rw [h]; exact M.Conv_ret _
  · simp only [Bool.not_eq_false'] at h; rw [h]; exact M.Conv_ret _
theorem eqLoop_ok {a b : List Int} (ha : a.length ≤ 9223372036854775807) (hl : a.length = b.length) : M.Conv (M.forI 0 (a.length : Int) (fun s => .inl s) (fun i1 => (fun (_ : Unit) => M.bind (M.idx a i1) (fun x2 => M.bind (M.idx b i1) (fun x3 => M.ite (x2 != x3) (M.ret (.inr (.inr false))) (M.ret (.inl ())))))) ()) (bif decide (a = b) then (.inl () : Unit ⊕ Bool) else .inr false) := by
  have h := eqInt64S_ok (b := b) ha
  refine (M.Conv_allI (fun i x => b[i]? == some x) false ha fun i x hx => ?_).of ?_
  · have hi := (List.getElem?_eq_some_iff.1 hx).1
    refine M.Conv_bind (M.Conv_get (by omega) (by simpa using hx)) ?_
    refine M.Conv_bind (M.Conv_get (x := b[i]) (by omega) (by simp [show i < b.length by omega])) ?_
    have hb : (b[i]? == some x) = !(x != b[i]) := by rw [List.getElem?_eq_getElem (by omega), bne, Bool.not_not, Option.some_beq_some, BEq.comm]
    rw [hb]
    cases (x != b[i]) <;> exact M.Conv_ret _
  · have key : ((a.zipIdx 0).all fun q => b[q.2]? == some q.1) = decide (a = b) := by
      by_cases e : a = b
      · subst e
        rw [decide_eq_true rfl, List.all_eq_true]
        rintro ⟨x, i⟩ hq
        have := List.mk_mem_zipIdx_iff_getElem?.1 hq
        simp [this]
      · rw [decide_eq_false e, Bool.eq_false_iff]
        intro h
        apply e
        rw [List.all_eq_true] at h
        refine List.ext_getElem hl fun i h1 h2 => ?_
        have := h (a[i], i) (List.mk_mem_zipIdx_iff_getElem?.2 (List.getElem?_eq_getElem h1))
        simp [h2] at this
        exact this.symm
    rw [key]
theorem spec_l01Same_ok {a b : List Int} (ha : a.length ≤ 9223372036854775807) : M.Conv (spec_l01Same a b) (decide (a = b)) := by
  unfold spec_l01Same
  refine M.Conv_ite (fun h => ?_) (fun h => ?_)
  · have : a ≠ b := by rintro rfl; simp at h
    rw [decide_eq_false this]; exact M.Conv_ret _
  · have hl : a.length = b.length := Int.ofNat.inj (by simpa using h)
    refine M.Conv_bind (eqLoop_ok ha hl) ?_
    cases decide (a = b) <;> exact M.Conv_ret _
theorem slices_Equal_int_ok {a b : List Int} (ha : a.length ≤ 9223372036854775807) : M.Conv (slices_Equal_int a b) (decide (a = b)) := by
  unfold slices_Equal_int
  refine M.Conv_ite (fun h => ?_) (fun h => ?_)
  · have : a ≠ b := by rintro rfl; simp at h
    rw [decide_eq_false this]; exact M.Conv_ret _
  · have hl : a.length = b.length := Int.ofNat.inj (by simpa using h)
    refine M.Conv_bind (eqLoop_ok ha hl) ?_
    cases decide (a = b) <;> exact M.Conv_ret _
/-- 'for i < len(l)', the counter a variable; a round may leave -/
def runO {α ρ : Type} (g : Nat → α → Option ρ) (e : ρ) : Nat → List α → ρ
  | _, [] => e
  | i, x :: xs => match g i x with | none => runO g e (i + 1) xs | some r => r
theorem Conv_while {α ρ : Type} {l : List α} {f : Int → M (Int ⊕ ρ)} (g : Nat → α → Option ρ) (e : ρ) (step : ∀ (i : Nat) x, l[i]? = some x → M.Conv (f i) (match g i x with | none => .inl ((i : Int) + 1) | some r => .inr r)) (stop : M.Conv (f (l.length : Int)) (.inr e)) :
    M.Conv (M.loop f 0) (runO g e 0 l) := by
  have key : ∀ (xs : List α) (i : Nat), (∀ (j : Nat) x, xs[j]? = some x → M.Conv (f (i + j : Nat)) (match g (i + j) x with | none => .inl (((i + j : Nat) : Int) + 1) | some r => .inr r)) → M.Conv (f (i + xs.length : Nat)) (.inr e) →
      ∃ N m0, ∀ n, N ≤ n → ∀ m, m0 ≤ m → M.loopN f n m (i : Int) = some (runO g e i xs) := by
    intro xs
    induction xs with
    | nil =>
      intro i _ ⟨N, h⟩
      refine ⟨N, 1, fun n hn m hm => ?_⟩
      obtain ⟨m, rfl⟩ : ∃ q, m = q + 1 := ⟨m - 1, by omega⟩
      have := h n hn
      simp only [List.length_nil, Nat.add_zero] at this
      simp [M.loopN, this, runO]
    | cons x xs ih =>
      intro i hs hst
      obtain ⟨N, h⟩ := hs 0 x rfl
      simp only [Nat.add_zero] at h
      cases hg : g i x with
      | none =>
        obtain ⟨N', m0, h'⟩ := ih (i + 1) (fun j y hy => by have := hs (j + 1) y (by simpa using hy); rw [show i + (j + 1) = i + 1 + j by omega] at this; exact this) (by rw [show i + 1 + xs.length = i + (x :: xs).length by simp; omega]; exact hst)
        refine ⟨max N N', m0 + 1, fun n hn m hm => ?_⟩
        obtain ⟨m, rfl⟩ : ∃ q, m = q + 1 := ⟨m - 1, by omega⟩
        have h1 := h n (by omega)
        rw [hg] at h1
        simp only [M.loopN, h1, runO, hg]
        exact h' n (by omega) m (by omega)
      | some r =>
        refine ⟨N, 1, fun n hn m hm => ?_⟩
        obtain ⟨m, rfl⟩ : ∃ q, m = q + 1 := ⟨m - 1, by omega⟩
        have h1 := h n hn
        rw [hg] at h1
        simp only [M.loopN, h1, runO, hg]
  obtain ⟨N, m0, h⟩ := key l 0 (fun j x hx => by simpa using step j x hx) (by simpa using stop)
  exact ⟨max N m0, fun n hn => h n (by omega) n (by omega)⟩
def smII (a : List (List Int)) : Prop := a.length ≤ 1048576 ∧ ∀ r ∈ a, r.length ≤ 1048576
def widthN (a : List (List Int)) : Nat := (a.headD []).length
def matB (a : List (List Int)) : Bool := (decide (1 ≤ a.length) && decide (a.length ≤ 10)) && ((decide (1 ≤ widthN a) && decide (widthN a ≤ 10)) && a.all fun r => decide (r.length = widthN a) && r.all valB)
/-- a matrix of w columns -/
structure Mat (a : List (List Int)) (w : Nat) : Prop where
  rows : 1 ≤ a.length ∧ a.length ≤ 10
  cols : 1 ≤ w ∧ w ≤ 10
  row : ∀ r ∈ a, r.length = w ∧ ∀ x ∈ r, valB x = true
theorem matB_mat {a : List (List Int)} (h : matB a = true) : Mat a (widthN a) := by
  simp only [matB, Bool.and_eq_true, decide_eq_true_eq, List.all_eq_true] at h
  exact ⟨h.1, h.2.1, fun r hr => ⟨(h.2.2 r hr).1, (h.2.2 r hr).2⟩⟩
theorem Mat.head {a : List (List Int)} {w : Nat} (h : Mat a w) : ∃ r, a[0]? = some r ∧ r.length = w := by
  have := h.rows
  exact ⟨a[0], List.getElem?_eq_getElem (by omega), (h.row _ (List.getElem_mem (by omega))).1⟩
theorem spec_IsMatrix_ok {a : List (List Int)} (h : smII a) : M.Conv (spec_IsMatrix a) (matB a) := by
  unfold spec_IsMatrix
  have hl := h.1
  refine M.Conv_ite (fun q => (M.Conv_ret _).of ?_) (fun q => ?_)
  · simp only [Bool.or_eq_true, decide_eq_true_eq] at q
    have : (decide (1 ≤ a.length) && decide (a.length ≤ 10)) = false := by
      rcases q with q | q
      · rw [decide_eq_false (show ¬ 1 ≤ a.length by omega)]; rfl
      · rw [decide_eq_false (show ¬ a.length ≤ 10 by omega)]; simp
    simp [matB, this]
  · simp only [Bool.or_eq_false_iff, decide_eq_false_iff_not] at q
    obtain ⟨r0, rs, rfl⟩ := List.exists_cons_of_ne_nil (l := a) (by rintro rfl; simp at q)
    refine M.Conv_bind (M.Conv_all (fun r => vecB r && decide (r.length = r0.length)) false (by omega) fun i r hr => ?_) ?_
    · have hrl := h.2 r (List.mem_of_getElem? hr)
      have hg : M.Conv (M.idx (r0 :: rs) i) r := M.Conv_get (by omega) (by simpa using hr)
      refine M.Conv_bind hg (M.Conv_bind (spec_l02Vector_ok (by omega)) (M.Conv_bind (x := !(vecB r && decide (r.length = r0.length))) (M.Conv_ite (fun b => ?_) (fun b => ?_)) ?_))
      · simp only [Bool.not_eq_true'] at b; rw [b]; exact M.Conv_ret _
      · simp only [Bool.not_eq_false'] at b
        rw [b]
        refine M.Conv_bind hg (M.Conv_bind (M.Conv_get (x := r0) (by omega) rfl) ((M.Conv_ret _).of ?_))
        simp only [Bool.true_and, bne]
        congr 1
        rw [Bool.eq_iff_iff]; simp; omega
      · cases (vecB r && decide (r.length = r0.length)) <;> exact M.Conv_ret _
    · have e : matB (r0 :: rs) = (r0 :: rs).all fun r => vecB r && decide (r.length = r0.length) := by
        have L : matB (r0 :: rs) = true ↔ ((1 ≤ (r0 :: rs).length ∧ (r0 :: rs).length ≤ 10) ∧ ((1 ≤ r0.length ∧ r0.length ≤ 10) ∧ ∀ r ∈ r0 :: rs, r.length = r0.length ∧ r.all valB = true)) := by
          have e0 : matB (r0 :: rs) = ((decide (1 ≤ (r0 :: rs).length) && decide ((r0 :: rs).length ≤ 10)) && ((decide (1 ≤ r0.length) && decide (r0.length ≤ 10)) && (r0 :: rs).all fun r => decide (r.length = r0.length) && r.all valB)) := rfl
          rw [e0, Bool.and_eq_true, Bool.and_eq_true, Bool.and_eq_true, Bool.and_eq_true, List.all_eq_true]
          simp only [decide_eq_true_eq, Bool.and_eq_true]
        have R : ∀ r : List Int, (vecB r && decide (r.length = r0.length)) = true ↔ ((1 ≤ r.length ∧ r.length ≤ 10) ∧ r.all valB = true) ∧ r.length = r0.length := by
          intro r
          unfold vecB
          simp only [Bool.and_eq_true, decide_eq_true_eq]
        rw [Bool.eq_iff_iff, List.all_eq_true, L]
        constructor
        · rintro ⟨_, ⟨h1, h2⟩, h3⟩ r hr
          obtain ⟨e1, e2⟩ := h3 r hr
          exact (R r).2 ⟨⟨⟨by omega, by omega⟩, e2⟩, e1⟩
        · intro hh
          obtain ⟨⟨⟨e1, e2⟩, _⟩, _⟩ := (R r0).1 (hh r0 List.mem_cons_self)
          exact ⟨⟨by omega, by omega⟩, ⟨e1, e2⟩, fun r hr => ⟨((R r).1 (hh r hr)).2, ((R r).1 (hh r hr)).1.2⟩⟩
      rw [e]
      cases ((r0 :: rs).all fun r => vecB r && decide (r.length = r0.length)) <;> exact M.Conv_ret _
theorem impl_IsMatrix_ok {a : List (List Int)} (h : smII a) : M.Conv (impl_IsMatrix a) (matB a) := by
  unfold impl_IsMatrix slices_ContainsFunc_row_F_impl_IsMatrix_1 slices_IndexFunc_row_F_impl_IsMatrix_1
  have hl := h.1
  refine M.Conv_bind (impl_within_ok _ _ _) ?_
  have e0 : (decide (1 ≤ (a.length : Int)) && decide ((a.length : Int) ≤ 10)) = (decide (1 ≤ a.length) && decide (a.length ≤ 10)) := by
    rw [decide_eq_decide.2 (show (1 : Int) ≤ a.length ↔ 1 ≤ a.length by omega), decide_eq_decide.2 (show (a.length : Int) ≤ 10 ↔ a.length ≤ 10 by omega)]
  rw [e0]
  cases hb : (decide (1 ≤ a.length) && decide (a.length ≤ 10)) with
  | false => exact M.Conv_bind (x := true) (M.Conv_ret _) ((M.Conv_ret _).of (by simp [matB, hb]))
  | true =>
    simp only [Bool.and_eq_true, decide_eq_true_eq] at hb
    obtain ⟨r0, rs, rfl⟩ := List.exists_cons_of_ne_nil (l := a) (by rintro rfl; simp at hb)
    have e1 : (decide (1 ≤ (r0.length : Int)) && decide ((r0.length : Int) ≤ 10)) = (decide (1 ≤ widthN (r0 :: rs)) && decide (widthN (r0 :: rs) ≤ 10)) := by
      rw [decide_eq_decide.2 (show (1 : Int) ≤ r0.length ↔ 1 ≤ r0.length by omega), decide_eq_decide.2 (show (r0.length : Int) ≤ 10 ↔ r0.length ≤ 10 by omega)]; rfl
    refine M.Conv_bind (x := !(decide (1 ≤ widthN (r0 :: rs)) && decide (widthN (r0 :: rs) ≤ 10))) (M.Conv_ite (fun q => by simp at q) (fun _ => M.Conv_bind (M.Conv_get (x := r0) (by omega) rfl) (M.Conv_bind (impl_within_ok _ _ _) ((M.Conv_ret _).of (by rw [e1]))))) ?_
    have e2 : matB (r0 :: rs) = ((decide (1 ≤ widthN (r0 :: rs)) && decide (widthN (r0 :: rs) ≤ 10)) && (r0 :: rs).all fun r => decide (r.length = widthN (r0 :: rs)) && r.all valB) := by
      simp only [matB, decide_eq_true hb.1, decide_eq_true hb.2, Bool.true_and]
    rw [e2]
    cases (decide (1 ≤ widthN (r0 :: rs)) && decide (widthN (r0 :: rs) ≤ 10)) with
    | false => exact M.Conv_ret _
    | true =>
      refine M.Conv_ite (fun q => by simp at q) (fun _ => ?_)
      refine M.Conv_bind (contains_ok (fun r => !(decide (r.length = widthN (r0 :: rs)) && r.all valB)) (by omega) fun i r hr => ?_) ((M.Conv_ret _).of (by rw [any_not, Bool.true_and]))
      have hrl := h.2 r (List.mem_of_getElem? hr)
      refine M.Conv_bind (M.Conv_get (by omega) (by simpa using hr)) (M.Conv_bind (x := !(decide (r.length = widthN (r0 :: rs)) && r.all valB)) (M.Conv_bind (M.Conv_get (x := r0) (by omega) rfl) (M.Conv_bind (x := !(decide (r.length = widthN (r0 :: rs)) && r.all valB)) (M.Conv_ite (fun q => ?_) (fun q => ?_)) (M.Conv_ret _))) ?_)
      · have : r.length ≠ widthN (r0 :: rs) := fun e => by rw [show r.length = r0.length from e] at q; simp at q
        rw [decide_eq_false this]; exact M.Conv_ret _
      · have : r.length = widthN (r0 :: rs) := Int.ofNat.inj (show (r.length : Int) = r0.length by simpa using q)
        rw [decide_eq_true this]; exact M.Conv_bind (impl_areValues_ok (by omega)) (M.Conv_ret _)
      · cases (decide (r.length = widthN (r0 :: rs)) && r.all valB) <;> exact M.Conv_ret _

def foldI {α σ : Type} (g : Nat → α → σ → σ) : Nat → List α → σ → σ
  | _, [], s => s
  | i, x :: xs, s => foldI g (i + 1) xs (g i x s)
theorem run_foldI {α σ ρ : Type} (g : Nat → α → σ → σ) (fin : σ → ρ) : ∀ (l : List α) (i : Nat) (s : σ), M.run (fun i x s => .inl (g i x s)) fin i l s = fin (foldI g i l s)
  | [], _, _ => rfl
  | x :: xs, i, s => by simp only [M.run, foldI]; exact run_foldI g fin xs (i + 1) (g i x s)
theorem Conv_foldI {α σ : Type} {l : List α} {f : Int → σ → M (σ ⊕ σ)} {s : σ} (g : Nat → α → σ → σ) (I : Nat → σ → Prop) (hl : l.length ≤ 9223372036854775807) (h0 : I 0 s) (H : ∀ (i : Nat) x s, l[i]? = some x → I i s → M.Conv (f i s) (.inl (g i x s)) ∧ I (i + 1) (g i x s)) :
    M.Conv (M.forI 0 (l.length : Int) (fun s => s) f s) (foldI g 0 l s) :=
  (M.Conv_forI (fun i x s => .inl (g i x s)) I hl h0 fun i x s hx hI => ⟨(H i x s hx hI).1, fun s' e => by cases e; exact (H i x s hx hI).2⟩).of (run_foldI g _ l 0 s)
theorem foldI_inv {α σ : Type} (g : Nat → α → σ → σ) (I : Nat → σ → Prop) : ∀ (l : List α) (i : Nat) (s : σ), I i s → (∀ j x s, x ∈ l → I j s → I (j + 1) (g j x s)) → I (i + l.length) (foldI g i l s)
  | [], _, _, h, _ => h
  | x :: xs, i, s, h, H => by
    have := foldI_inv g I xs (i + 1) (g i x s) (H i x s List.mem_cons_self h) (fun j y s hy => H j y s (List.mem_cons_of_mem _ hy))
    rw [List.length_cons, show i + (xs.length + 1) = i + 1 + xs.length by omega]; exact this
/-- a loop whose state has a counter -/
theorem Conv_whileS {σ ρ : Type} {n : Nat} {f : σ × Int → M ((σ × Int) ⊕ ρ)} (g : Nat → σ → σ) (I : Nat → σ → Prop) (e : σ → ρ) (s0 : σ) (h0 : I 0 s0)
    (step : ∀ i s, i < n → I i s → M.Conv (f (s, (i : Int))) (.inl (g i s, (i : Int) + 1)) ∧ I (i + 1) (g i s)) (stop : ∀ s, I n s → M.Conv (f (s, (n : Int))) (.inr (e s))) : ∃ s, I n s ∧ M.Conv (M.loop f (s0, 0)) (e s) := by
  have key : ∀ (d i : Nat) (s : σ), i + d = n → I i s → ∃ s', I n s' ∧ ∃ N m0, ∀ k, N ≤ k → ∀ m, m0 ≤ m → M.loopN f k m (s, (i : Int)) = some (e s') := by
    intro d
    induction d with
    | zero =>
      intro i s hi hI
      obtain rfl : i = n := by omega
      obtain ⟨N, h⟩ := stop s hI
      refine ⟨s, hI, N, 1, fun k hk m hm => ?_⟩
      obtain ⟨m, rfl⟩ : ∃ q, m = q + 1 := ⟨m - 1, by omega⟩
      simp [M.loopN, h k hk]
    | succ d ih =>
      intro i s hi hI
      obtain ⟨⟨N, h⟩, hI'⟩ := step i s (by omega) hI
      obtain ⟨s', hs', N', m0, h'⟩ := ih (i + 1) (g i s) (by omega) hI'
      refine ⟨s', hs', max N N', m0 + 1, fun k hk m hm => ?_⟩
      obtain ⟨m, rfl⟩ : ∃ q, m = q + 1 := ⟨m - 1, by omega⟩
      simp only [M.loopN, h k (by omega)]
      have := h' k (by omega) m (by omega)
      simpa using this
  obtain ⟨s, hs, N, m0, h⟩ := key n 0 s0 (by omega) h0
  exact ⟨s, hs, max N m0, fun k hk => h k (by omega) k (by omega)⟩
theorem Conv_whileV {σ ρ : Type} {n : Nat} {f : σ × Int → M ((σ × Int) ⊕ ρ)} (val : Nat → σ) (r : ρ) (step : ∀ (i : Nat), i < n → M.Conv (f (val i, (i : Int))) (.inl (val (i + 1), (i : Int) + 1))) (stop : M.Conv (f (val n, (n : Int))) (.inr r)) : M.Conv (M.loop f (val 0, 0)) r := by
  obtain ⟨s, _, h⟩ := Conv_whileS (n := n) (f := f) (fun i _ => val (i + 1)) (fun i s => s = val i) (fun _ => r) (val 0) rfl (fun i s hi hs => by subst hs; exact ⟨step i hi, rfl⟩) (fun s hs => by subst hs; exact stop)
  exact h
/-- what one row says of the least difference in column j -/
def quoC (b : List Int) (i : Nat) (v : Int) : Int := bif ((b[i]?).getD 0) == (-1000000000000000) then (-1000000000000000) else w64 ((b[i]?).getD 0 - v)
def stepC (b : List Int) (j : Nat) (i : Nat) (row : List Int) (s : Int × Bool) : Int × Bool :=
  bif ((row[j]?).getD 0) == (-1000000000000000) then s else bif !s.2 || decide (quoC b i ((row[j]?).getD 0) < s.1) then (quoC b i ((row[j]?).getD 0), true) else s
def colS (a : List (List Int)) (b : List Int) (j : Nat) : Int × Bool := foldI (stepC b j) 0 a (0, false)
theorem stepC_snd (b : List Int) (j i : Nat) (row : List Int) (s : Int × Bool) : (stepC b j i row s).2 = (s.2 || (((row[j]?).getD 0) != (-1000000000000000))) := by
  unfold stepC
  simp only [bne]
  cases ((row[j]?).getD 0) == (-1000000000000000) with
  | true => simp
  | false =>
    cases hs : s.2 with
    | false => simp
    | true =>
      simp only [cond_false, Bool.not_true, Bool.false_or]
      cases decide (quoC b i ((row[j]?).getD 0) < s.1) <;> simp [hs]
theorem colS_found (a : List (List Int)) (b : List Int) (j : Nat) : (colS a b j).2 = a.any fun r => ((r[j]?).getD 0) != (-1000000000000000) := by
  have key : ∀ (l : List (List Int)) (i : Nat) (s : Int × Bool), (foldI (stepC b j) i l s).2 = (s.2 || l.any fun r => ((r[j]?).getD 0) != (-1000000000000000)) := by
    intro l
    induction l with
    | nil => intro i s; simp [foldI]
    | cons r rs ih => intro i s; rw [foldI, ih, stepC_snd, List.any_cons, Bool.or_assoc]
  simpa [colS] using key a 0 (0, false)
/-- differences of values lie in a narrow band, or are Bottom -/
def bandB (x : Int) : Prop := x = -1000000000000000 ∨ (-2000000 ≤ x ∧ x ≤ 2000000)
theorem val_cases {x : Int} (h : valB x = true) : x = -1000000000000000 ∨ (-1000000 ≤ x ∧ x ≤ 1000000) := by
  cases hb : (x == (-1000000000000000)) with
  | true => left; simpa using hb
  | false => right; exact finB_bd (val_ne h hb)
theorem colS_band {a : List (List Int)} {b : List Int} {w j : Nat} (hm : Mat a w) (hj : j < w) (hb : ∀ x ∈ b, valB x = true) : bandB (colS a b j).1 := by
  have := foldI_inv (stepC b j) (fun _ s => bandB s.1) a 0 (0, false) (.inr ⟨by decide, by decide⟩) (fun i row s hr hs => by
    unfold stepC
    obtain ⟨e1, e2⟩ := hm.row row hr
    have hv : valB ((row[j]?).getD 0) = true := by rw [List.getElem?_eq_getElem (by omega)]; exact e2 _ (List.getElem_mem _)
    cases hrb : ((row[j]?).getD 0) == (-1000000000000000) with
    | true => exact hs
    | false =>
      have hrv := finB_bd (val_ne hv hrb)
      have hq : bandB (quoC b i ((row[j]?).getD 0)) := by
        unfold quoC
        cases hbb : ((b[i]?).getD 0) == (-1000000000000000) with
        | true => exact .inl rfl
        | false =>
          have hbv : -1000000 ≤ (b[i]?).getD 0 ∧ (b[i]?).getD 0 ≤ 1000000 := by
            cases hbi : b[i]? with
            | none => simp
            | some y => rw [hbi] at hbb; exact finB_bd (val_ne (hb y (List.mem_of_getElem? hbi)) hbb)
          right
          simp only [cond_false]
          rw [w64_eq _ (by omega)]
          omega
      simp only [cond_false]
      cases (!s.2 || decide (quoC b i ((row[j]?).getD 0) < s.1)) with
      | true => exact hq
      | false => exact hs)
  exact this
theorem Mat.get {a : List (List Int)} {w i : Nat} {row : List Int} (hm : Mat a w) (h : a[i]? = some row) {j : Nat} (hj : j < w) : M.Conv (M.idx row (j : Int)) ((row[j]?).getD 0) ∧ valB ((row[j]?).getD 0) = true := by
  obtain ⟨e1, e2⟩ := hm.row row (List.mem_of_getElem? h)
  rw [List.getElem?_eq_getElem (by omega)]
  exact ⟨M.Conv_get (by omega) (by simp [show j < row.length by omega]), e2 _ (List.getElem_mem _)⟩
theorem get_row {a : List (List Int)} {i : Nat} {row : List Int} (h : a[i]? = some row) : M.Conv (M.idx a (i : Int)) row := M.Conv_get (by omega) (by simpa using h)
/-- the greatest subsolution's program, and its twin -/
def fitsB (a : List (List Int)) (b : List Int) : Bool := (List.range (widthN a)).all fun j => (colS a b j).2
theorem spec_l08Fits_ok {a : List (List Int)} {b : List Int} {w : Nat} (hm : Mat a w) (hw : widthN a = w) : M.Conv (spec_l08Fits a) (fitsB a b) := by
  unfold spec_l08Fits
  obtain ⟨r0, h0, hl⟩ := hm.head
  have hrows := hm.rows
  have hcols := hm.cols
  refine M.Conv_bind (x := (bif fitsB a b then .inl (w : Int) else .inr false : Int ⊕ Bool)) ((Conv_while (l := List.range w) (fun i _ => bif (colS a b i).2 then none else some (.inr false)) (.inl (w : Int)) (fun i x hx => ?_) ?_).of ?_) ?_
  · have hi : i < w := by have := (List.getElem?_eq_some_iff.1 hx).1; simpa using this
    refine M.Conv_bind (get_row h0) (M.Conv_ite (fun _ => ?_) (fun q => by have := of_decide_eq_false q; omega))
    refine M.Conv_bind (x := (colS a b i).2) ?_ ?_
    · rw [colS_found]
      refine (M.Conv_fold (l := a) (fun s r => s || (((r[i]?).getD 0) != (-1000000000000000))) (by omega) fun k r s hr => ?_).of ?_
      · refine M.Conv_bind (x := s || (((r[i]?).getD 0) != (-1000000000000000))) (M.Conv_ite (fun q => (M.Conv_ret _).of (by simp [q])) (fun q => ?_)) (M.Conv_ret _)
        exact M.Conv_bind (get_row hr) (M.Conv_bind (hm.get hr hi).1 ((M.Conv_ret _).of (by simp [q])))
      · have : ∀ (l : List (List Int)) (s : Bool), l.foldl (fun s r => s || (((r[i]?).getD 0) != (-1000000000000000))) s = (s || l.any fun r => ((r[i]?).getD 0) != (-1000000000000000)) := by
          intro l
          induction l with
          | nil => simp
          | cons r rs ih => intro s; rw [List.foldl_cons, ih, List.any_cons, Bool.or_assoc]
        simpa using this a false
    · cases (colS a b i).2 with
      | true => exact M.Conv_ite (fun q => by simp at q) (fun _ => (M.Conv_ret _).of (by rw [w64_eq _ (by omega)]; rfl))
      | false => exact M.Conv_ret _
  · simp only [List.length_range]
    exact M.Conv_bind (get_row h0) (M.Conv_ite (fun q => by have := of_decide_eq_true q; omega) (fun _ => M.Conv_ret _))
  · have key : ∀ (n i : Nat), runO (ρ := Int ⊕ Bool) (fun i (_ : Nat) => bif (colS a b i).2 then none else some (.inr false)) (.inl (w : Int)) i ((List.range n).map (i + ·)) = bif ((List.range n).map (i + ·)).all (fun j => (colS a b j).2) then .inl (w : Int) else .inr false := by
      intro n
      induction n with
      | zero => intro i; rfl
      | succ n ih =>
        intro i
        have e : (List.range (n + 1)).map (i + ·) = i :: (List.range n).map (i + 1 + ·) := by
          rw [List.range_succ_eq_map, List.map_cons, List.map_map]
          congr 1
          exact List.map_congr_left fun k _ => by simp only [Function.comp]; omega
        rw [e]
        simp only [runO, List.all_cons]
        cases (colS a b i).2 with
        | true => simpa using ih (i + 1)
        | false => rfl
    have := key w 0
    simpa [fitsB, hw] using this
  · cases fitsB a b <;> exact M.Conv_ret _
def subL (a : List (List Int)) (b : List Int) : List Int := (List.range (widthN a)).map fun j => (colS a b j).1
theorem subL_len (a : List (List Int)) (b : List Int) : (subL a b).length = widthN a := by simp [subL]
theorem spec_l08Sub_ok {a : List (List Int)} {b : List Int} {w : Nat} (hm : Mat a w) (hw : widthN a = w) (hb : b.length = a.length) : M.Conv (spec_l08Sub a b) (subL a b) := by
  unfold spec_l08Sub
  obtain ⟨r0, h0, hl⟩ := hm.head
  have hrows := hm.rows
  have hcols := hm.cols
  refine M.Conv_bind (x := (subL a b, (w : Int))) (Conv_whileV (n := w) (fun i => (List.range i).map fun j => (colS a b j).1) _ (fun j hj => ?_) ?_) (M.Conv_ret _)
  · refine M.Conv_bind (get_row h0) (M.Conv_ite (fun _ => ?_) (fun q => by have := of_decide_eq_false q; omega))
    refine M.Conv_bind (x := colS a b j) (Conv_foldI (stepC b j) (fun _ _ => True) (by omega) trivial fun i row s hr _ => ⟨?_, trivial⟩) (M.Conv_bind (M.Conv_app (by simp; omega)) ((M.Conv_ret _).of (by rw [w64_eq _ (by omega), List.range_succ, List.map_append]; rfl)))
    have hi := (List.getElem?_eq_some_iff.1 hr).1
    obtain ⟨rd, rv⟩ := hm.get hr hj
    have hbi : M.Conv (M.idx b (i : Int)) ((b[i]?).getD 0) := M.Conv_get (by omega) (by simp [show i < b.length by omega])
    refine M.Conv_bind (x := stepC b j i row s) (M.Conv_bind (get_row hr) (M.Conv_bind rd (M.Conv_ite (fun q => (M.Conv_ret _).of ?_) (fun q => M.Conv_bind hbi (M.Conv_bind (x := quoC b i ((row[j]?).getD 0)) ?_ ?_))))) (M.Conv_ret _)
    · simp only [stepC, q, cond_true]
    · refine M.Conv_ite (fun p => M.Conv_bind hbi (M.Conv_bind (get_row hr) (M.Conv_bind rd ((M.Conv_ret _).of ?_)))) (fun p => (M.Conv_ret _).of ?_)
      · simp only [bne, Bool.not_eq_true'] at p; simp only [quoC, p, cond_false]
      · simp only [bne, Bool.not_eq_false'] at p; simp only [quoC, p, cond_true]
    · refine M.Conv_ite (fun p => (M.Conv_ret _).of ?_) (fun p => (M.Conv_ret _).of ?_)
      · simp only [stepC, q, cond_false, p, cond_true]
      · simp only [stepC, q, cond_false, p]
  · exact M.Conv_bind (get_row h0) (M.Conv_ite (fun q => by have := of_decide_eq_true q; omega) (fun _ => (M.Conv_ret _).of (by rw [subL, hw])))
theorem impl_greatestSub_ok {a : List (List Int)} {b : List Int} (ha : smII a) (hbl : smI b) : M.Conv (impl_greatestSub a b) (bif matB a && vecB b then bif decide (a.length = b.length) then bif fitsB a b then (subL a b, 0) else ([], 5) else ([], 5) else ([], 1)) := by
  unfold impl_greatestSub
  unfold smI at hbl
  refine M.Conv_bind (impl_IsMatrix_ok ha) (M.Conv_bind (x := !(matB a && vecB b)) (M.Conv_ite (fun q => (M.Conv_ret _).of ?_) (fun q => M.Conv_bind (impl_isVector_ok (by omega)) ((M.Conv_ret _).of ?_))) ?_)
  · simp only [Bool.not_eq_true'] at q; rw [q]; rfl
  · simp only [Bool.not_eq_false'] at q; rw [q]; rfl
  cases hmv : (matB a && vecB b) with
  | false => exact M.Conv_ret _
  | true =>
    simp only [Bool.and_eq_true] at hmv
    have hm := matB_mat hmv.1
    obtain ⟨r0, h0, hl⟩ := hm.head
    have hrows := hm.rows
    have hcols := hm.cols
    have hbv : ∀ x ∈ b, valB x = true := by have := hmv.2; simp only [vecB, Bool.and_eq_true, List.all_eq_true] at this; exact this.2
    refine M.Conv_ite (fun q => by simp at q) (fun _ => M.Conv_ite (fun q => (M.Conv_ret _).of ?_) (fun q => ?_))
    · have : a.length ≠ b.length := fun e => by rw [e] at q; simp at q
      rw [decide_eq_false this]; rfl
    · have hab : a.length = b.length := Int.ofNat.inj (show (a.length : Int) = b.length by simpa using q)
      rw [decide_eq_true hab]
      refine M.Conv_bind (get_row h0) (M.Conv_bind (M.Conv_make (by omega) (by omega)) ?_)
      rw [hl, Int.toNat_natCast, List.length_replicate]
      -- column by column
      have key : ∀ (d j : Nat), j + d = widthN a → ∃ N, ∀ n, N ≤ n → M.forN (widthN a : Int) (fun s => .inl s) (fun i1 => (fun (s1 : (List Int)) => M.bind (M.forI 0 (a.length : Int) (fun s => s) (fun i2 => (fun (s3 : (List Int) × Bool) => M.bind (M.bind (M.idx a i2) (fun x7 => M.bind (M.idx x7 i1) (fun x8 => M.ite (x8 == (-1000000000000000)) (M.ret (s3.1, s3.2)) (M.bind (M.idx b i2) (fun x9 => M.bind (M.idx x7 i1) (fun x10 => M.bind (impl_times x9 (w64 (0 - x10))) (fun x11 => M.bind (M.ite (!s3.2) (M.ret true) (M.bind (M.idx s3.1 i1) (fun x13 => M.ret (decide (x11 < x13))))) (fun x12 => M.ite x12 (M.bind (M.idx s3.1 i1) (fun x14 => M.bind (M.upd s3.1 i1 x11) (fun l2 => M.ret (l2, true)))) (M.ret (s3.1, s3.2)))))))))) (fun (s4 : (List Int) × Bool) => M.ret (.inl (s4.1, s4.2))))) (s1, false)) (fun x6 => M.ite (!x6.2) (M.ret (.inr (.inr (([] : List Int), 5)))) (M.ret (.inl x6.1))))) n d (j : Int) ((subL a b).take j ++ List.replicate d 0) =
            some (bif ((List.range d).map (j + ·)).all (fun j => (colS a b j).2) then (.inl (subL a b) : List Int ⊕ (List Int × Int)) else .inr ([], 5)) := by
        intro d
        induction d with
        | zero =>
          intro j hj
          obtain rfl : j = widthN a := by omega
          have ht : (subL a b).take (widthN a) = subL a b := List.take_of_length_le (by rw [subL_len]; exact Nat.le_refl _)
          exact ⟨0, fun n _ => by simp [M.forN, ht]⟩
        | succ d ih =>
          intro j hj
          have hjw : j < widthN a := by omega
          have hjw' : (j : Int) < widthN a := by omega
          have htl : ((subL a b).take j).length = j := by rw [List.length_take, subL_len]; omega
          have hset : ∀ v, ((subL a b).take j ++ List.replicate (d + 1) 0).set j v = (subL a b).take j ++ v :: List.replicate d 0 := fun v => by
            rw [List.set_append_right _ _ (by omega), htl, Nat.sub_self, List.replicate_succ]; rfl
          have hinner : M.Conv (M.forI 0 (a.length : Int) (fun s => s) (fun i2 => (fun (s3 : (List Int) × Bool) => M.bind (M.bind (M.idx a i2) (fun x7 => M.bind (M.idx x7 (j : Int)) (fun x8 => M.ite (x8 == (-1000000000000000)) (M.ret (s3.1, s3.2)) (M.bind (M.idx b i2) (fun x9 => M.bind (M.idx x7 (j : Int)) (fun x10 => M.bind (impl_times x9 (w64 (0 - x10))) (fun x11 => M.bind (M.ite (!s3.2) (M.ret true) (M.bind (M.idx s3.1 (j : Int)) (fun x13 => M.ret (decide (x11 < x13))))) (fun x12 => M.ite x12 (M.bind (M.idx s3.1 (j : Int)) (fun x14 => M.bind (M.upd s3.1 (j : Int) x11) (fun l2 => M.ret (l2, true)))) (M.ret (s3.1, s3.2)))))))))) (fun (s4 : (List Int) × Bool) => M.ret (.inl (s4.1, s4.2))))) ((subL a b).take j ++ List.replicate (d + 1) 0, false)) ((subL a b).take j ++ (colS a b j).1 :: List.replicate d 0, (colS a b j).2) := by
            -- the state in the program's spelling
            let W : Int × Bool → List Int × Bool := fun s => ((subL a b).take j ++ s.1 :: List.replicate d 0, s.2)
            have hW0 : ((subL a b).take j ++ List.replicate (d + 1) 0, false) = W (0, false) := by simp only [W, List.replicate_succ]
            have hrd : ∀ s, M.Conv (M.idx (W s).1 (j : Int)) s.1 := fun s => M.Conv_get (by omega) (by simp only [W, Int.toNat_natCast]; rw [List.getElem?_append_right (by omega), htl]; simp)
            have hup : ∀ s v, M.Conv (M.upd (W s).1 (j : Int) v) ((subL a b).take j ++ v :: List.replicate d 0) := fun s v => (M.Conv_upd (by simp only [W, List.length_append, htl, List.length_cons]; omega)).of (by simp only [W]; rw [List.set_append_right _ _ (by omega), htl, Nat.sub_self]; rfl)
            rw [hW0]
            have main := M.Conv_forI (l := a) (f := (fun i2 => (fun (s3 : (List Int) × Bool) => M.bind (M.bind (M.idx a i2) (fun x7 => M.bind (M.idx x7 (j : Int)) (fun x8 => M.ite (x8 == (-1000000000000000)) (M.ret (s3.1, s3.2)) (M.bind (M.idx b i2) (fun x9 => M.bind (M.idx x7 (j : Int)) (fun x10 => M.bind (impl_times x9 (w64 (0 - x10))) (fun x11 => M.bind (M.ite (!s3.2) (M.ret true) (M.bind (M.idx s3.1 (j : Int)) (fun x13 => M.ret (decide (x11 < x13))))) (fun x12 => M.ite x12 (M.bind (M.idx s3.1 (j : Int)) (fun x14 => M.bind (M.upd s3.1 (j : Int) x11) (fun l2 => M.ret (l2, true)))) (M.ret (s3.1, s3.2)))))))))) (fun (s4 : (List Int) × Bool) => M.ret (.inl (s4.1, s4.2)))))) (fin := fun s => s) (s := W (0, false)) (ρ := List Int × Bool)
              (fun i row s => .inl (W (stepC b j i row (((s.1[j]?).getD 0), s.2)))) (fun _ s => ∃ q, s = W q) (by omega) ⟨_, rfl⟩ (fun i row s hr ⟨q, hq⟩ => by
                subst hq
                have hi := (List.getElem?_eq_some_iff.1 hr).1
                obtain ⟨rd, rv⟩ := hm.get hr hjw
                have hq1 : (((W q).1[j]?).getD 0, (W q).2) = q := by
                  simp only [W]; rw [List.getElem?_append_right (by omega), htl]; simp
                refine ⟨?_, fun s' e => by cases e; exact ⟨_, rfl⟩⟩
                rw [hq1]
                have hbi : M.Conv (M.idx b (i : Int)) ((b[i]?).getD 0) := M.Conv_get (by omega) (by simp [show i < b.length by omega])
                refine M.Conv_bind (x := W (stepC b j i row q)) (M.Conv_bind (get_row hr) (M.Conv_bind rd (M.Conv_ite (fun p => (M.Conv_ret _).of ?_) (fun p => M.Conv_bind hbi (M.Conv_bind rd (M.Conv_bind (x := quoC b i ((row[j]?).getD 0)) ((impl_times_ok _ _).of ?_) (M.Conv_bind (x := !q.2 || decide (quoC b i ((row[j]?).getD 0) < q.1)) (M.Conv_ite (fun t => (M.Conv_ret _).of ?_) (fun t => M.Conv_bind (hrd q) ((M.Conv_ret _).of ?_))) ?_))))))) (M.Conv_ret _)
                · simp only [stepC, p, cond_true]
                · have hv := finB_bd (val_ne rv p)
                  simp only [timesI, quoC]
                  rw [w64_eq (0 - _) (by omega)]
                  cases hbb : ((b[i]?).getD 0) == (-1000000000000000) with
                  | true => simp
                  | false =>
                    have : (0 - (row[j]?).getD 0 == (-1000000000000000)) = false := by simp; omega
                    rw [this]; simp only [Bool.or_false, cond_false]
                    rw [show (b[i]?).getD 0 + (0 - (row[j]?).getD 0) = (b[i]?).getD 0 - (row[j]?).getD 0 by omega]
                · have t : q.2 = false := by simpa using t
                  simp [t]
                · have t : q.2 = true := by simpa using t
                  simp [t]
                · refine M.Conv_ite (fun t => M.Conv_bind (hrd q) (M.Conv_bind (hup q _) ((M.Conv_ret _).of ?_))) (fun t => (M.Conv_ret _).of ?_)
                  · simp only [stepC, p, cond_false, t, cond_true]; rfl
                  · simp only [stepC, p, cond_false, t])
            refine main.of ?_
            have run : ∀ (l : List (List Int)) (i : Nat) (q : Int × Bool), M.run (ρ := List Int × Bool) (fun i row s => .inl (W (stepC b j i row (((s.1[j]?).getD 0), s.2)))) (fun s => s) i l (W q) = W (foldI (stepC b j) i l q) := by
              intro l
              induction l with
              | nil => intro i q; rfl
              | cons r rs ih =>
                intro i q
                have hq1 : (((W q).1[j]?).getD 0, (W q).2) = q := by
                  simp only [W]; rw [List.getElem?_append_right (by omega), htl]; simp
                simp only [M.run, foldI, hq1]
                exact ih (i + 1) _
            exact run a 0 (0, false)
          obtain ⟨N1, hin⟩ := hinner
          have eall : ((List.range (d + 1)).map (j + ·)).all (fun j => (colS a b j).2) = ((colS a b j).2 && ((List.range d).map (j + 1 + ·)).all (fun j => (colS a b j).2)) := by
            rw [List.range_succ_eq_map, List.map_cons, List.map_map, List.all_cons]
            congr 2
            exact List.map_congr_left fun k _ => by simp only [Function.comp]; omega
          rw [eall]
          cases hf : (colS a b j).2 with
          | false =>
            refine ⟨N1, fun n hn => ?_⟩
            have := hin n hn
            rw [hf] at this
            simp only [M.forN, hjw', decide_true, cond_true]
            simp only [M.bind] at this ⊢
            rw [this]
            rfl
          | true =>
            obtain ⟨N2, h2⟩ := ih (j + 1) (by omega)
            refine ⟨max N1 N2, fun n hn => ?_⟩
            have h1 := hin n (by omega)
            rw [hf] at h1
            have h3 := h2 n (by omega)
            have htk : (subL a b).take (j + 1) = (subL a b).take j ++ [(colS a b j).1] := by
              rw [List.take_add_one]; congr 1
              simp [subL, hjw]
            rw [htk, List.append_assoc, List.singleton_append] at h3
            simp only [M.forN, hjw', decide_true, cond_true]
            simp only [M.bind] at h1 ⊢
            rw [h1]
            simp only [Bool.not_true, M.ite, cond_false, M.ret]
            simpa [M.bind, M.ite, M.ret] using h3
      obtain ⟨N, h⟩ := key (widthN a) 0 (by omega)
      refine M.Conv_bind (x := bif fitsB a b then (.inl (subL a b) : List Int ⊕ (List Int × Int)) else .inr ([], 5)) ⟨N, fun n hn => ?_⟩ ?_
      · have h1 := h n hn
        simp only [M.forI, show decide ((widthN a : Int) ≤ 9223372036854775807) = true from decide_eq_true (by omega), show decide ((-9223372036854775808 : Int) ≤ 0) = true by decide, Bool.and_self, cond_true]
        simpa [fitsB] using h1
      · cases fitsB a b <;> exact M.Conv_ret _

theorem spec_l08Code_ok {a : List (List Int)} {b : List Int} (ha : smII a) (hb : smI b) : M.Conv (spec_l08Code a b) (bif matB a && vecB b then bif decide (a.length = b.length) then bif fitsB a b then 0 else 5 else 5 else 1) := by
  unfold spec_l08Code
  unfold smI at hb
  refine M.Conv_bind (spec_IsMatrix_ok ha) (M.Conv_bind (x := !(matB a && vecB b)) (M.Conv_ite (fun q => (M.Conv_ret _).of ?_) (fun q => M.Conv_bind (spec_l02Vector_ok (by omega)) ((M.Conv_ret _).of ?_))) ?_)
  · simp only [Bool.not_eq_true'] at q; rw [q]; rfl
  · simp only [Bool.not_eq_false'] at q; rw [q]; rfl
  cases hmv : (matB a && vecB b) with
  | false => exact M.Conv_ret _
  | true =>
    simp only [Bool.and_eq_true] at hmv
    refine M.Conv_ite (fun q => by simp at q) (fun _ => ?_)
    by_cases hab : a.length = b.length
    · rw [decide_eq_true hab]
      refine M.Conv_bind (x := !fitsB a b) (M.Conv_ite (fun q => by rw [hab] at q; simp at q) (fun _ => M.Conv_bind (spec_l08Fits_ok (matB_mat hmv.1) rfl) (M.Conv_ret _))) ?_
      cases fitsB a b <;> exact M.Conv_ret _
    · rw [decide_eq_false hab]
      refine M.Conv_bind (x := true) (M.Conv_ite (fun _ => M.Conv_ret _) (fun q => ?_)) (M.Conv_ret _)
      exact absurd (Int.ofNat.inj (show (a.length : Int) = b.length by simpa using q)) hab
structure Resid (a : List (List Int)) (b : List Int) : Prop where
  mat : Mat a (widthN a)
  len : b.length = a.length
  vec : ∀ x ∈ b, valB x = true
theorem resid_cases {a : List (List Int)} {b : List Int} (ha : smII a) (hb : smI b) :
    (∃ code, code ≠ 0 ∧ M.Conv (spec_l08Code a b) code ∧ M.Conv (impl_greatestSub a b) ([], code)) ∨ (M.Conv (spec_l08Code a b) 0 ∧ M.Conv (impl_greatestSub a b) (subL a b, 0) ∧ M.Conv (spec_l08Sub a b) (subL a b) ∧ Resid a b) := by
  have h1 := spec_l08Code_ok ha hb
  have h2 := impl_greatestSub_ok ha hb
  cases hmv : (matB a && vecB b) with
  | false => rw [hmv] at h1 h2; exact .inl ⟨1, by decide, h1, h2⟩
  | true =>
    rw [hmv] at h1 h2
    simp only [Bool.and_eq_true] at hmv
    by_cases hab : a.length = b.length
    · rw [decide_eq_true hab] at h1 h2
      cases hf : fitsB a b with
      | false => rw [hf] at h1 h2; exact .inl ⟨5, by decide, h1, h2⟩
      | true =>
        rw [hf] at h1 h2
        have hm := matB_mat hmv.1
        have hv : ∀ x ∈ b, valB x = true := by have := hmv.2; simp only [vecB, Bool.and_eq_true, List.all_eq_true] at this; exact this.2
        exact .inr ⟨h1, h2, spec_l08Sub_ok hm rfl hab.symm, hm, hab.symm, hv⟩
    · rw [decide_eq_false hab] at h1 h2; exact .inl ⟨5, by decide, h1, h2⟩
theorem ne0 {code : Int} (h : code ≠ 0) : (code != 0) = true := by simpa using h
theorem result_same {x : List Int} (h1 : 1 ≤ x.length) (h2 : x.length ≤ 10) : M.Conv (spec_l08Result x) (bif x.all valB then (x, 0) else ([], 3)) ∧ M.Conv (impl_checkedVector x) (bif x.all valB then (x, 0) else ([], 3)) := by
  refine ⟨?_, impl_checkedVector_ok (by omega)⟩
  unfold spec_l08Result
  have e : vecB x = x.all valB := by simp only [vecB, decide_eq_true h1, decide_eq_true h2, Bool.true_and]
  refine M.Conv_bind (spec_l02Vector_ok (by omega)) ?_
  rw [e]
  cases x.all valB <;> exact M.Conv_ret _
theorem result_sm (x : List Int) (h2 : x.length ≤ 10) : smI (bif x.all valB then ((x, 0) : List Int × Int) else ([], 3)).1 := by
  cases x.all valB <;> simp [smI] <;> omega
def dotL (x row : List Int) : Int := foldI (fun j v s => mx s (timesI v ((x[j]?).getD 0))) 0 row (-1000000000000000)
theorem spec_l02Apply_ok {a : List (List Int)} {x : List Int} {w : Nat} (hm : Mat a w) (hx : x.length = w) : M.Conv (spec_l02Apply a x) (a.map (dotL x)) := by
  unfold spec_l02Apply
  have hrows := hm.rows
  have hcols := hm.cols
  refine M.Conv_bind ((M.Conv_forI (fun _ r s => .inl (s ++ [dotL x r])) (fun i s => s.length = i) (by omega) rfl fun i r s hr hs => ?_).of (?_ : _ = a.map (dotL x))) (M.Conv_ret _)
  · have hi := (List.getElem?_eq_some_iff.1 hr).1
    obtain ⟨hrl, hrv⟩ := hm.row r (List.mem_of_getElem? hr)
    refine ⟨M.Conv_bind (x := dotL x r) ?_ (M.Conv_bind (M.Conv_app (by simp; omega)) (M.Conv_ret _)), fun s' e => by cases e; simp [hs]⟩
    rw [show (x.length : Int) = (r.length : Int) by omega]
    refine Conv_foldI (fun j v s => mx s (timesI v ((x[j]?).getD 0))) (fun _ _ => True) (by omega) trivial fun j v s hv _ => ⟨?_, trivial⟩
    have hj := (List.getElem?_eq_some_iff.1 hv).1
    refine M.Conv_bind (get_row hr) (M.Conv_bind (M.Conv_get (x := v) (by omega) (by simpa using hv)) (M.Conv_bind (M.Conv_get (x := (x[j]?).getD 0) (by omega) (by simp [show j < x.length by omega])) (M.Conv_bind (spec_l01Times_ok _ _) (M.Conv_ret _))))
  · have key : ∀ (xs : List (List Int)) (i : Nat) (s : List Int), M.run (ρ := List Int) (fun _ r s => .inl (s ++ [dotL x r])) (fun s => s) i xs s = s ++ xs.map (dotL x) := by
      intro xs
      induction xs with
      | nil => intro i s; simp [M.run]
      | cons x xs ih => intro i s; simp [M.run, ih]
    simpa using key a 0 []
theorem impl_timesVector_ok {a : List (List Int)} {x : List Int} {w : Nat} (hm : Mat a w) (hx : x.length = w) : M.Conv (impl_timesVector a x) (a.map (dotL x)) := by
  unfold impl_timesVector
  have hrows := hm.rows
  have hcols := hm.cols
  refine M.Conv_bind (M.Conv_make (by omega) (by omega)) ?_
  rw [Int.toNat_natCast]
  refine M.Conv_bind ((M.Conv_fill (l := a) (fun _ r => dotL x r) 0 (by omega) fun i r s hr hs => ?_).of (?_ : _ = a.map (dotL x))) (M.Conv_ret _)
  · have hi := (List.getElem?_eq_some_iff.1 hr).1
    obtain ⟨hrl, hrv⟩ := hm.row r (List.mem_of_getElem? hr)
    have his : i < s.length := by omega
    refine M.Conv_bind (get_row hr) (M.Conv_bind (M.Conv_get (x := s[i]) (by omega) (by simp [his])) (M.Conv_bind (M.Conv_upd his) (M.Conv_bind (x := s.set i (dotL x r)) ?_ (M.Conv_ret _))))
    refine (M.Conv_forI (l := r) (fun j v t => .inl (s.set i (mx ((t[i]?).getD 0) (timesI v ((x[j]?).getD 0))))) (fun _ t => ∃ q, t = s.set i q) (by omega) ⟨_, rfl⟩ fun j v t hv hq => ?_).of ?_
    · obtain ⟨q, hq⟩ := hq
      subst hq
      have hj := (List.getElem?_eq_some_iff.1 hv).1
      have hg : M.Conv (M.idx (s.set i q) (i : Int)) q := M.Conv_get (by omega) (by simp [his])
      have hq : ((s.set i q)[i]?).getD 0 = q := by simp [his]
      refine ⟨?_, fun s' e => by cases e; exact ⟨_, rfl⟩⟩
      rw [hq]
      refine M.Conv_bind (M.Conv_get (x := v) (by omega) (by simpa using hv)) (M.Conv_bind hg (M.Conv_bind (M.Conv_get (x := (x[j]?).getD 0) (by omega) (by simp [show j < x.length by omega])) (M.Conv_bind (impl_times_ok _ _) (M.Conv_bind hg (M.Conv_bind (M.Conv_upd (by simpa using his)) ((M.Conv_ret _).of (by rw [List.set_set])))))))
    have run : ∀ (l : List Int) (j : Nat) (q : Int), M.run (ρ := List Int) (fun j v t => .inl (s.set i (mx ((t[i]?).getD 0) (timesI v ((x[j]?).getD 0))))) (fun s => s) j l (s.set i q) = s.set i (foldI (fun j v s => mx s (timesI v ((x[j]?).getD 0))) j l q) := by
      intro l
      induction l with
      | nil => intro j q; rfl
      | cons v vs ih =>
        intro j q
        have hq : ((s.set i q)[i]?).getD 0 = q := by simp [his]
        simp only [M.run, foldI, hq]
        exact ih (j + 1) _
    exact run r 0 _
  · exact M.zipIdx_map_fst (g := fun r => dotL x r)
theorem same_SolveSystem (a : List (List Int)) (_ : fitL (fitL inI64) a) (b : List Int) (_ : fitL inI64 b) (sa : smII a) (sb : smI b) : Two (spec_SolveSystem a b) (impl_SolveSystem a b) (fun w => smI w.1) := by
  unfold spec_SolveSystem impl_SolveSystem
  rcases resid_cases sa sb with ⟨code, hc, h1, h2⟩ | ⟨h1, h2, h3, hr⟩
  · refine Two.bindC h1 h2 (Two.iteL (fun _ => Two.iteR (fun _ => Two.ret _ (by simp [smI])) (fun q => ?_)) (fun q => ?_))
    · rw [ne0 hc] at q; cases q
    · rw [ne0 hc] at q; cases q
  · have hl := subL_len a b
    have hrows := hr.mat.rows
    have hw := hr.mat.cols
    have hml : (a.map (dotL (subL a b))).length = a.length := List.length_map _
    obtain ⟨k1, k2⟩ := result_same (x := subL a b) (by omega) (by omega)
    refine Two.bindC h1 h2 (Two.iteL (fun q => by simp at q) (fun _ => Two.iteR (fun q => by simp at q) (fun _ => Two.bindC h3 (impl_timesVector_ok hr.mat hl) ?_)))
    refine Two.bindC (spec_l02Apply_ok hr.mat hl) (slices_Equal_int_ok (by rw [List.length_map]; omega)) (Two.left (spec_l01Same_ok (by rw [List.length_map]; omega)) (Two.ite (fun _ => Two.ret _ (by simp [smI])) (fun _ => Two.bindC k1 k2 (Two.ret _ (result_sm _ (by omega))))))
theorem Conv_forV {σ : Type} {n : Nat} {f : Int → σ → M (σ ⊕ σ)} (val : Nat → σ) (hn : n ≤ 9223372036854775807) (h : ∀ i, i < n → M.Conv (f i (val i)) (.inl (val (i + 1)))) : M.Conv (M.forI 0 (n : Int) (fun s => s) f (val 0)) (val n) := by
  have := M.Conv_forI (l := List.range n) (f := f) (fin := fun s => s) (s := val 0) (ρ := σ) (fun i _ _ => .inl (val (i + 1))) (fun i s => s = val i) (by simpa using hn) rfl (fun i x s hx hs => by
    subst hs
    have hi := (List.getElem?_eq_some_iff.1 hx).1
    exact ⟨h i (by simpa using hi), fun s' e => by cases e; rfl⟩)
  simp only [List.length_range] at this
  refine this.of ?_
  have run : ∀ (m i : Nat), M.run (σ := σ) (ρ := σ) (fun i (_ : Nat) _ => .inl (val (i + 1))) (fun s => s) i (List.range m) (val i) = val (i + m) := by
    have g : ∀ (l : List Nat) (i : Nat), M.run (σ := σ) (ρ := σ) (fun i (_ : Nat) _ => .inl (val (i + 1))) (fun s => s) i l (val i) = val (i + l.length) := by
      intro l
      induction l with
      | nil => intro i; rfl
      | cons x xs ih => intro i; simp only [M.run, List.length_cons]; rw [ih (i + 1)]; congr 1; omega
    intro m i
    rw [g, List.length_range]
  simpa using run n 0
theorem head_of_mat {a : List (List Int)} (h : matB a = true) : ∃ r, a[0]? = some r ∧ r.length = widthN a := (matB_mat h).head
def ConvL {σ ρ : Type} (f : σ → M (σ ⊕ ρ)) (s : σ) (r : ρ) : Prop := ∃ N m0, ∀ n, N ≤ n → ∀ m, m0 ≤ m → M.loopN f n m s = some r
theorem ConvL.conv {σ ρ : Type} {f : σ → M (σ ⊕ ρ)} {s : σ} {r : ρ} (h : ConvL f s r) : M.Conv (M.loop f s) r := by
  obtain ⟨N, m0, h⟩ := h
  exact ⟨max N m0, fun n hn => h n (by omega) n (by omega)⟩
theorem ConvL.step {σ ρ : Type} {f : σ → M (σ ⊕ ρ)} {s s' : σ} {r : ρ} (h1 : M.Conv (f s) (.inl s')) (h : ConvL f s' r) : ConvL f s r := by
  obtain ⟨N, h1⟩ := h1
  obtain ⟨N', m0, h⟩ := h
  refine ⟨max N N', m0 + 1, fun n hn m hm => ?_⟩
  obtain ⟨m, rfl⟩ : ∃ q, m = q + 1 := ⟨m - 1, by omega⟩
  simp only [M.loopN, h1 n (by omega)]
  exact h n (by omega) m (by omega)
theorem ConvL.stop {σ ρ : Type} {f : σ → M (σ ⊕ ρ)} {s : σ} {r : ρ} (h1 : M.Conv (f s) (.inr r)) : ConvL f s r := by
  obtain ⟨N, h1⟩ := h1
  refine ⟨N, 1, fun n hn m hm => ?_⟩
  obtain ⟨m, rfl⟩ : ∃ q, m = q + 1 := ⟨m - 1, by omega⟩
  simp only [M.loopN, h1 n hn]
def bitN (s j : Nat) : Nat := s / 2 ^ j % 2
def popN (s : Nat) : Nat := (List.range 10).foldl (fun t j => t + bitN s j) 0
def chk1 (s j : Nat) : Bool :=
  (ibit .and .i64 (ishr .i64 (s : Int) (IntKind.u64.wrap (j : Int))) 1 == (bitN s j : Int)) && (ibit .and .i64 (ishr .i64 (s : Int) (j : Int)) 1 == (bitN s j : Int)) && (ishl .i64 1 (IntKind.u64.wrap (j : Int)) == ((2 ^ j : Nat) : Int)) && (ishl .i64 1 (j : Int) == ((2 ^ j : Nat) : Int)) &&
  (ibit .or .i64 (s : Int) (ishl .i64 1 (j : Int)) == (bif bitN s j == 1 then (s : Int) else ((s + 2 ^ j : Nat) : Int))) && (bif bitN s j == 1 then decide (2 ^ j ≤ s) && (popN (s - 2 ^ j) + 1 == popN s) && (bitN (s - 2 ^ j) j == 0) else bitN s j == 0) && decide (IntKind.u64.wrap (j : Int) = (j : Int))
theorem chk1_all : ((List.range 1024).all fun s => (List.range 10).all fun j => chk1 s j) = true := by decide +kernel
def chk3 (n s : Nat) : Bool := (popN (2 ^ n - 1 - s) + popN s == n) && (List.range n).all fun j => (bitN (2 ^ n - 1 - s) j + bitN s j == 1)
theorem chk3_all : ((List.range 11).all fun n => (List.range (2 ^ n)).all fun s => chk3 n s) = true := by decide +kernel
theorem chk4_all : ((List.range 11).all fun n => (ishl .i64 1 (IntKind.u64.wrap (n : Int)) == ((2 ^ n : Nat) : Int)) && (ishl .i64 1 (n : Int) == ((2 ^ n : Nat) : Int)) && decide (2 ^ n ≤ 1024) && decide (1 ≤ 2 ^ n) && decide (0 ≤ IntKind.u64.wrap (n : Int))) = true := by decide +kernel
structure Bit (s j : Nat) : Prop where
  andU : ibit .and .i64 (ishr .i64 (s : Int) (IntKind.u64.wrap (j : Int))) 1 = (bitN s j : Int)
  and : ibit .and .i64 (ishr .i64 (s : Int) (j : Int)) 1 = (bitN s j : Int)
  shlU : ishl .i64 1 (IntKind.u64.wrap (j : Int)) = ((2 ^ j : Nat) : Int)
  shl : ishl .i64 1 (j : Int) = ((2 ^ j : Nat) : Int)
  or : ibit .or .i64 (s : Int) (ishl .i64 1 (j : Int)) = (bif bitN s j == 1 then (s : Int) else ((s + 2 ^ j : Nat) : Int))
  one : bitN s j = 1 → 2 ^ j ≤ s ∧ popN (s - 2 ^ j) + 1 = popN s ∧ bitN (s - 2 ^ j) j = 0
  zero : bitN s j ≠ 1 → bitN s j = 0
  wrapU : IntKind.u64.wrap (j : Int) = (j : Int)
theorem bit_ok {s j : Nat} (hs : s < 1024) (hj : j < 10) : Bit s j := by
  have h := chk1_all
  rw [List.all_eq_true] at h
  have h := h s (List.mem_range.2 hs)
  rw [List.all_eq_true] at h
  have h := h j (List.mem_range.2 hj)
  simp only [chk1, Bool.and_eq_true, beq_iff_eq, decide_eq_true_eq] at h
  obtain ⟨⟨⟨⟨⟨⟨h1, h2⟩, h3⟩, h4⟩, h5⟩, h6⟩, h7⟩ := h
  refine ⟨h1, h2, h3, h4, h5, fun e => ?_, fun e => ?_, h7⟩
  · rw [e] at h6
    simp only [beq_self_eq_true, cond_true, Bool.and_eq_true, decide_eq_true_eq, beq_iff_eq] at h6
    exact ⟨h6.1.1, h6.1.2, h6.2⟩
  · rw [show (bitN s j == 1) = false by simpa using e] at h6
    simpa using h6
theorem compl_ok {n s : Nat} (hn : n ≤ 10) (hs : s < 2 ^ n) : popN (2 ^ n - 1 - s) + popN s = n ∧ ∀ j, j < n → bitN (2 ^ n - 1 - s) j + bitN s j = 1 := by
  have h := chk3_all
  rw [List.all_eq_true] at h
  have h := h n (List.mem_range.2 (by omega))
  rw [List.all_eq_true] at h
  have h := h s (List.mem_range.2 hs)
  simp only [chk3, Bool.and_eq_true, beq_iff_eq, List.all_eq_true, List.mem_range] at h
  exact h
theorem pow_ok {n : Nat} (hn : n ≤ 10) : ishl .i64 1 (IntKind.u64.wrap (n : Int)) = ((2 ^ n : Nat) : Int) ∧ ishl .i64 1 (n : Int) = ((2 ^ n : Nat) : Int) ∧ 2 ^ n ≤ 1024 ∧ 1 ≤ 2 ^ n ∧ 0 ≤ IntKind.u64.wrap (n : Int) := by
  have h := chk4_all
  rw [List.all_eq_true] at h
  have h := h n (List.mem_range.2 (by omega))
  simp only [Bool.and_eq_true, beq_iff_eq, decide_eq_true_eq] at h
  exact ⟨h.1.1.1.1, h.1.1.1.2, h.1.1.2, h.1.2, h.2⟩
def entA (a : List (List Int)) (i j : Nat) : Int := (((a[i]?).getD [])[j]?).getD 0
theorem ent_val {a : List (List Int)} {n i j : Nat} (hm : Mat a n) (hi : i < a.length) (hj : j < n) : M.Conv (M.idx a (i : Int)) a[i] ∧ M.Conv (M.idx a[i] (j : Int)) (entA a i j) ∧ valB (entA a i j) = true := by
  have hr : a[i]? = some a[i] := List.getElem?_eq_getElem hi
  obtain ⟨g1, g2⟩ := hm.get hr hj
  have e : entA a i j = (a[i][j]?).getD 0 := by simp only [entA, hr, Option.getD_some]
  rw [e]
  exact ⟨get_row hr, g1, g2⟩
def popTo (s m : Nat) : Nat := (List.range m).foldl (fun t j => t + bitN s j) 0
theorem popTo_succ (s m : Nat) : popTo s (m + 1) = popTo s m + bitN s m := by simp [popTo, List.range_succ]
theorem bitN_le (s j : Nat) : bitN s j ≤ 1 := by unfold bitN; omega
theorem bitN_big {s n j : Nat} (h : s < 2 ^ n) (hj : n ≤ j) : bitN s j = 0 := by
  have : 2 ^ n ≤ 2 ^ j := Nat.pow_le_pow_right (by decide) hj
  unfold bitN
  rw [Nat.div_eq_of_lt (by omega)]
theorem popTo_n {s n : Nat} (h : s < 2 ^ n) (hn : n ≤ 10) : popTo s n = popN s := by
  have : ∀ d, n + d ≤ 10 → popTo s (n + d) = popTo s n := by
    intro d
    induction d with
    | zero => intro _; rfl
    | succ d ih => intro h'; rw [← Nat.add_assoc, popTo_succ, ih (by omega), bitN_big h (by omega), Nat.add_zero]
  rw [← this (10 - n) (by omega), show n + (10 - n) = 10 by omega]; rfl
theorem timesI_val {v w : Int} (hv : v = -1000000000000000 ∨ (-1000000 ≤ v ∧ v ≤ 1000000)) (hw : w = -1000000000000000 ∨ (-10000000 ≤ w ∧ w ≤ 10000000)) :
    timesI v w = (bif (v == (-1000000000000000)) || (w == (-1000000000000000)) then -1000000000000000 else v + w) ∧ ((timesI v w == (-1000000000000000)) = ((v == (-1000000000000000)) || (w == (-1000000000000000)))) := by
  unfold timesI
  cases h : (v == (-1000000000000000)) || (w == (-1000000000000000)) with
  | true => simp
  | false =>
    simp only [Bool.or_eq_false_iff, beq_eq_false_iff_ne, ne_eq] at h
    simp only [cond_false]
    have e : w64 (v + w) = v + w := w64_eq _ (by omega)
    rw [e]
    exact ⟨rfl, by simp; omega⟩
theorem conv_up {σ ρ : Type} {f : σ → M (σ ⊕ ρ)} {r : ρ} (st : Nat → σ) {n k0 : Nat} (hk : k0 ≤ n) (h : ∀ k, k0 ≤ k → k < n → M.Conv (f (st k)) (.inl (st (k + 1)))) (hs : M.Conv (f (st n)) (.inr r)) : M.Conv (M.loop f (st k0)) r := by
  have H : ∀ (d k : Nat), k0 ≤ k → k + d = n → ConvL f (st k) r := by
    intro d
    induction d with
    | zero => intro k _ e; obtain rfl : k = n := by omega
              exact ConvL.stop hs
    | succ d ih => intro k h1 e; exact ConvL.step (h k h1 (by omega)) (ih (k + 1) (by omega) (by omega))
  exact (H (n - k0) k0 (Nat.le_refl _) (by omega)).conv
theorem conv_up0 {σ ρ : Type} {f : σ → M (σ ⊕ ρ)} {r : ρ} {s0 : σ} (st : Nat → σ) {n k0 : Nat} (e : s0 = st k0) (hk : k0 ≤ n) (h : ∀ k, k0 ≤ k → k < n → M.Conv (f (st k)) (.inl (st (k + 1)))) (hs : M.Conv (f (st n)) (.inr r)) : M.Conv (M.loop f s0) r := by
  subst e; exact conv_up st hk h hs

def tab {α : Type} (n : Nat) (h : Nat → α) : List α := (List.range n).map h
theorem tab_len {α : Type} (n : Nat) (h : Nat → α) : (tab n h).length = n := by simp [tab]
theorem tab_get {α : Type} {n i : Nat} {h : Nat → α} (hi : i < n) : (tab n h)[i]? = some (h i) := by simp [tab, List.getElem?_range hi]
theorem tab_none {α : Type} {n i : Nat} {h : Nat → α} (hi : n ≤ i) : (tab n h)[i]? = none := List.getElem?_eq_none (by rw [tab_len]; exact hi)
theorem tab_ext {α : Type} {n : Nat} {h : Nat → α} {l : List α} (hl : l.length = n) (e : ∀ i, i < n → l[i]? = some (h i)) : l = tab n h := by
  apply List.ext_getElem?
  intro i
  by_cases hi : i < n
  · rw [e i hi, tab_get hi]
  · rw [tab_none (by omega), List.getElem?_eq_none (by omega)]
theorem tab_congr {α : Type} {n : Nat} {h g : Nat → α} (e : ∀ i, i < n → h i = g i) : tab n h = tab n g := by
  refine tab_ext (tab_len _ _) fun i hi => ?_
  rw [tab_get hi, e i hi]
theorem tab_set {α : Type} {n i : Nat} {h g : Nat → α} {v : α} (hv : v = g i) (e : ∀ p, p < n → p ≠ i → h p = g p) : (tab n h).set i v = tab n g := by
  refine tab_ext (by rw [List.length_set, tab_len]) fun p hp => ?_
  rw [List.getElem?_set]
  by_cases q : i = p
  · subst q; rw [if_pos rfl, if_pos (by rw [tab_len]; exact hp), hv]
  · rw [if_neg q, tab_get hp, e p hp (fun c => q c.symm)]
theorem tab_snoc {α : Type} (n : Nat) (h : Nat → α) : tab n h ++ [h n] = tab (n + 1) h := by simp [tab, List.range_succ]
theorem idx_tab {α : Type} {n i : Nat} {h : Nat → α} (hi : i < n) : M.Conv (M.idx (tab n h) (i : Int)) (h i) := M.Conv_idx (tab_get hi)
def matF (m n : Nat) (f : Nat → Nat → Int) : List (List Int) := tab m fun i => tab n (f i)
theorem matF_len (m n : Nat) (f : Nat → Nat → Int) : (matF m n f).length = m := tab_len _ _
theorem matF_congr {m n : Nat} {f g : Nat → Nat → Int} (e : ∀ i j, i < m → j < n → f i j = g i j) : matF m n f = matF m n g := tab_congr fun i hi => tab_congr fun j hj => e i j hi hj
structure Shp (a : List (List Int)) (w : Nat) : Prop where
  rows : 1 ≤ a.length ∧ a.length ≤ 10
  cols : 1 ≤ w ∧ w ≤ 10
  row : ∀ r ∈ a, r.length = w
theorem Mat.shp {a : List (List Int)} {w : Nat} (hm : Mat a w) : Shp a w := ⟨hm.rows, hm.cols, fun r hr => (hm.row r hr).1⟩
theorem ent_read {a : List (List Int)} {w i j : Nat} (hm : Shp a w) (hi : i < a.length) (hj : j < w) : ∃ r, M.Conv (M.idx a (i : Int)) r ∧ r.length = w ∧ M.Conv (M.idx r (j : Int)) (entA a i j) := by
  have hr : a[i]? = some a[i] := List.getElem?_eq_getElem hi
  have hl := hm.row _ (List.mem_of_getElem? hr)
  have h2 : a[i][j]? = some (a[i][j]'(by omega)) := List.getElem?_eq_getElem _
  refine ⟨_, get_row hr, hl, (M.Conv_idx h2).of ?_⟩
  simp only [entA, hr, Option.getD_some, h2]
theorem spec_l02Bottom_ok {m n : Nat} (hm : m ≤ 1048576) (hn : n ≤ 1048576) : M.Conv (spec_l02Bottom (m : Int) (n : Int)) (matF m n fun _ _ => -1000000000000000) := by
  unfold spec_l02Bottom
  refine M.Conv_bind (Conv_forV (fun i => tab i fun _ => tab n fun _ => (-1000000000000000 : Int)) (by omega) fun i hi => ?_) (M.Conv_ret _)
  refine M.Conv_bind (Conv_forV (fun j => tab j fun _ => (-1000000000000000 : Int)) (by omega) fun j hj => ?_) ?_
  · exact M.Conv_bind (M.Conv_app (by simp [tab_len]; omega)) ((M.Conv_ret _).of (congrArg Sum.inl (tab_snoc _ _)))
  · exact M.Conv_bind (M.Conv_app (by simp [tab_len]; omega)) ((M.Conv_ret _).of (congrArg Sum.inl (tab_snoc i _)))
/-- one entry set -/
theorem matF_set {m n i j : Nat} {f g : Nat → Nat → Int} (e : ∀ p q, p < m → q < n → ¬(p = i ∧ q = j) → f p q = g p q) : (matF m n f).set i ((tab n (f i)).set j (g i j)) = matF m n g := by
  by_cases hi : i < m
  · refine tab_set (tab_set rfl fun q hq hne => e i q hi hq (by omega)) fun p hp hne => tab_congr fun q hq => e p q hp hq (by omega)
  · rw [List.set_eq_of_length_le (by rw [matF_len]; omega)]
    exact matF_congr fun p q hp hq => e p q hp hq (by omega)
theorem matB_shp {a : List (List Int)} {w : Nat} (h : Shp a w) : matB a = a.all fun r => r.all valB := by
  have h1 := h.rows
  have h2 := h.cols
  have hw : widthN a = w := by
    unfold widthN
    cases a with
    | nil => simp at h1
    | cons r rs => exact h.row r (by simp)
  unfold matB
  rw [hw, decide_eq_true h1.1, decide_eq_true h1.2, decide_eq_true h2.1, decide_eq_true h2.2]
  simp only [Bool.true_and]
  rw [Bool.eq_iff_iff, List.all_eq_true, List.all_eq_true]
  refine ⟨fun H r hr => ?_, fun H r hr => ?_⟩
  · have := H r hr; simp only [Bool.and_eq_true] at this; exact this.2
  · rw [decide_eq_true (h.row r hr), Bool.true_and]; exact H r hr
theorem Shp.sm {a : List (List Int)} {w : Nat} (h : Shp a w) : smII a := ⟨by have := h.rows; omega, fun r hr => by have := h.row r hr; have := h.cols; omega⟩
theorem Conv_or {b v : Bool} {m : M Bool} (h : b = false → M.Conv m v) : M.Conv (M.ite b (M.ret true) m) (b || v) := by
  cases b with
  | true => exact M.Conv_ite (fun _ => M.Conv_ret _) (fun t => by simp at t)
  | false => exact M.Conv_ite (fun t => by simp at t) (fun _ => h rfl)
def Rel {α β : Type} (m : M α) (m' : M β) (Q : α → β → Prop) : Prop := ∃ r r', M.Conv m r ∧ M.Conv m' r' ∧ Q r r'
theorem Rel.of {α β : Type} {m : M α} {m' : M β} {Q : α → β → Prop} {r : α} {r' : β} (h : M.Conv m r) (h' : M.Conv m' r') (q : Q r r') : Rel m m' Q := ⟨r, r', h, h', q⟩
theorem Rel.bind {α β γ δ : Type} {m : M α} {m' : M β} {f : α → M γ} {f' : β → M δ} {P : α → β → Prop} {Q : γ → δ → Prop} (h : Rel m m' P) (g : ∀ x x', P x x' → Rel (f x) (f' x') Q) : Rel (M.bind m f) (M.bind m' f') Q := by
  obtain ⟨x, x', h1, h2, p⟩ := h
  obtain ⟨r, r', g1, g2, q⟩ := g x x' p
  exact ⟨r, r', M.Conv_bind h1 g1, M.Conv_bind h2 g2, q⟩
theorem Rel.left {α γ δ : Type} {m : M α} {f : α → M γ} {m' : M δ} {Q : γ → δ → Prop} {x : α} (h : M.Conv m x) (g : Rel (f x) m' Q) : Rel (M.bind m f) m' Q := by
  obtain ⟨r, r', g1, g2, q⟩ := g
  exact ⟨r, r', M.Conv_bind h g1, g2, q⟩
theorem Rel.right {α γ δ : Type} {m : M α} {f : α → M γ} {m' : M δ} {Q : δ → γ → Prop} {x : α} (h : M.Conv m x) (g : Rel m' (f x) Q) : Rel m' (M.bind m f) Q := by
  obtain ⟨r, r', g1, g2, q⟩ := g
  exact ⟨r, r', g1, M.Conv_bind h g2, q⟩
theorem Rel.two {α : Type} {m m' : M α} {P : α → Prop} (h : Rel m m' fun x y => x = y ∧ P x) : Two m m' P := by
  obtain ⟨r, r', h1, h2, rfl, p⟩ := h
  exact ⟨r, h1, h2, p⟩
theorem Rel.iteL {α β : Type} {b : Bool} {x y : M α} {m' : M β} {Q : α → β → Prop} (h1 : b = true → Rel x m' Q) (h2 : b = false → Rel y m' Q) : Rel (M.ite b x y) m' Q := by
  cases b
  · obtain ⟨r, r', g1, g2, q⟩ := h2 rfl
    exact ⟨r, r', M.Conv_ite (fun t => by simp at t) (fun _ => g1), g2, q⟩
  · obtain ⟨r, r', g1, g2, q⟩ := h1 rfl
    exact ⟨r, r', M.Conv_ite (fun _ => g1) (fun t => by simp at t), g2, q⟩
theorem Rel.iteR {α β : Type} {b : Bool} {x y : M β} {m' : M α} {Q : α → β → Prop} (h1 : b = true → Rel m' x Q) (h2 : b = false → Rel m' y Q) : Rel m' (M.ite b x y) Q := by
  cases b
  · obtain ⟨r, r', g1, g2, q⟩ := h2 rfl
    exact ⟨r, r', g1, M.Conv_ite (fun t => by simp at t) (fun _ => g2), q⟩
  · obtain ⟨r, r', g1, g2, q⟩ := h1 rfl
    exact ⟨r, r', g1, M.Conv_ite (fun _ => g2) (fun t => by simp at t), q⟩
theorem Rel.ite {α β : Type} {b b' : Bool} {x y : M α} {x' y' : M β} {Q : α → β → Prop} (e : b = b') (h1 : b = true → Rel x x' Q) (h2 : b = false → Rel y y' Q) : Rel (M.ite b x y) (M.ite b' x' y') Q := by
  subst e
  exact Rel.iteL (fun t => Rel.iteR (fun _ => h1 t) (fun t' => by rw [t] at t'; cases t')) (fun t => Rel.iteR (fun t' => by rw [t] at t'; cases t') (fun _ => h2 t))
theorem Rel.ret {α β : Type} {x : α} {y : β} {Q : α → β → Prop} (q : Q x y) : Rel (M.ret x) (M.ret y) Q := ⟨x, y, M.Conv_ret _, M.Conv_ret _, q⟩
/-- one round of two loops: both go on, or both stop -/
def Round {σ σ' ρ ρ' : Type} (R : σ → σ' → Prop) (Q : ρ → ρ' → Prop) (y : σ ⊕ ρ) (y' : σ' ⊕ ρ') : Prop := (∃ t t', y = .inl t ∧ y' = .inl t' ∧ R t t') ∨ (∃ r r', y = .inr r ∧ y' = .inr r' ∧ Q r r')
theorem Round.on {σ σ' ρ ρ' : Type} {R : σ → σ' → Prop} {Q : ρ → ρ' → Prop} {t : σ} {t' : σ'} (h : R t t') : Round R Q (.inl t) (.inl t') := .inl ⟨t, t', rfl, rfl, h⟩
theorem Rel.for {σ σ' ρ ρ' : Type} {n : Nat} {f : Int → σ → M (σ ⊕ ρ)} {f' : Int → σ' → M (σ' ⊕ ρ')} {fin : σ → ρ} {fin' : σ' → ρ'} {s : σ} {s' : σ'} {Q : ρ → ρ' → Prop} (R : Nat → σ → σ' → Prop) (hn : n ≤ 9223372036854775807) (h0 : R 0 s s')
    (step : ∀ (i : Nat) t t', i < n → R i t t' → Rel (f i t) (f' i t') (Round (R (i + 1)) Q)) (stop : ∀ t t', R n t t' → Q (fin t) (fin' t')) : Rel (M.forI 0 (n : Int) fin f s) (M.forI 0 (n : Int) fin' f' s') Q := by
  have H : ∀ (d i : Nat) t t', i + d = n → R i t t' → ∃ r r', (∃ N, ∀ m, N ≤ m → M.forN (n : Int) fin f m d (i : Int) t = some r) ∧ (∃ N, ∀ m, N ≤ m → M.forN (n : Int) fin' f' m d (i : Int) t' = some r') ∧ Q r r' := by
    intro d
    induction d with
    | zero =>
      intro i t t' e hR
      obtain rfl : i = n := by omega
      exact ⟨fin t, fin' t', ⟨0, fun m _ => by simp [M.forN]⟩, ⟨0, fun m _ => by simp [M.forN]⟩, stop t t' hR⟩
    | succ d ih =>
      intro i t t' e hR
      have hlt : (i : Int) < n := by omega
      obtain ⟨y, y', ⟨N, hy⟩, ⟨N', hy'⟩, hc⟩ := step i t t' (by omega) hR
      rcases hc with ⟨u, u', rfl, rfl, hR⟩ | ⟨r, r', rfl, rfl, hq⟩
      · obtain ⟨r, r', ⟨K, hr⟩, ⟨K', hr'⟩, hq⟩ := ih (i + 1) u u' (by omega) hR
        rw [Int.natCast_add] at hr hr'
        refine ⟨r, r', ⟨max N K, fun m hm => ?_⟩, ⟨max N' K', fun m hm => ?_⟩, hq⟩
        · simp [M.forN, hlt, hy m (by omega)]; exact hr m (by omega)
        · simp [M.forN, hlt, hy' m (by omega)]; exact hr' m (by omega)
      · exact ⟨r, r', ⟨N, fun m hm => by simp [M.forN, hlt, hy m hm]⟩, ⟨N', fun m hm => by simp [M.forN, hlt, hy' m hm]⟩, hq⟩
  obtain ⟨r, r', ⟨N, h1⟩, ⟨N', h2⟩, q⟩ := H n 0 s s' (by omega) h0
  refine ⟨r, r', ⟨N, fun m hm => ?_⟩, ⟨N', fun m hm => ?_⟩, q⟩
  · have := h1 m hm; have hn' : (n : Int) ≤ 9223372036854775807 := by omega
    simp [M.forI, hn']; exact this
  · have := h2 m hm; have hn' : (n : Int) ≤ 9223372036854775807 := by omega
    simp [M.forI, hn']; exact this
/-- a loop with a round count on the left, any loop on the right -/
theorem Rel.loop {σ σ' ρ ρ' : Type} {f : σ → M (σ ⊕ ρ)} {f' : σ' → M (σ' ⊕ ρ')} {s : σ} {s' : σ'} {Q : ρ → ρ' → Prop} (R : σ → σ' → Prop) (μ : σ → Nat) (h0 : R s s')
    (step : ∀ t t', R t t' → Rel (f t) (f' t') (Round (fun u u' => R u u' ∧ μ u < μ t) Q)) : Rel (M.loop f s) (M.loop f' s') Q := by
  have H : ∀ (d : Nat) t t', μ t < d → R t t' → ∃ r r', ConvL f t r ∧ ConvL f' t' r' ∧ Q r r' := by
    intro d
    induction d with
    | zero => intro t t' h; omega
    | succ d ih =>
      intro t t' h hR
      obtain ⟨y, y', hy, hy', hc⟩ := step t t' hR
      rcases hc with ⟨u, u', rfl, rfl, hR, hlt⟩ | ⟨r, r', rfl, rfl, hq⟩
      · obtain ⟨r, r', k1, k2, q⟩ := ih u u' (by omega) hR
        exact ⟨r, r', k1.step hy, k2.step hy', q⟩
      · exact ⟨r, r', ConvL.stop hy, ConvL.stop hy', hq⟩
  obtain ⟨r, r', h1, h2, q⟩ := H (μ s + 1) s s' (by omega) h0
  exact ⟨r, r', h1.conv, h2.conv, q⟩

theorem Conv_check {ρ : Type} {n lo : Nat} {f : Int → Unit → M (Unit ⊕ (Unit ⊕ ρ))} (P : Nat → Prop) (v : ρ) (hn : n ≤ 9223372036854775807)
    (h : ∀ i : Nat, lo ≤ i → i < n → (P i ∧ M.Conv (f i ()) (.inl ())) ∨ (¬ P i ∧ M.Conv (f i ()) (.inr (.inr v)))) :
    ((∀ i, lo ≤ i → i < n → P i) ∧ M.Conv (M.forI (lo : Int) (n : Int) (fun s => .inl s) f ()) (.inl ())) ∨ ((∃ i, lo ≤ i ∧ i < n ∧ ¬ P i) ∧ M.Conv (M.forI (lo : Int) (n : Int) (fun s => .inl s) f ()) (.inr v)) := by
  have H : M.TC (M.forI (lo : Int) (n : Int) (fun s => .inl s) f ()) (fun r => ((∀ i, lo ≤ i → i < n → P i) ∧ r = .inl ()) ∨ ((∃ i, lo ≤ i ∧ i < n ∧ ¬ P i) ∧ r = .inr v)) := by
    refine M.TC_for (fun i _ => ∀ k : Nat, lo ≤ k → (k : Int) < i → P k) () (by omega) (by omega) (fun k h1 h2 => by omega) (fun i s h1 h2 hI => ?_) (fun i s hi hI => ?_)
    · obtain ⟨k, rfl⟩ : ∃ k : Nat, i = (k : Int) := ⟨i.toNat, by omega⟩
      rcases h k (by omega) (by omega) with ⟨hp, hc⟩ | ⟨hp, hc⟩
      · refine hc.tc (.inl ⟨(), rfl, fun q h3 h4 => ?_⟩)
        by_cases e : q = k
        · subst e; exact hp
        · exact hI q h3 (by omega)
      · exact hc.tc (.inr ⟨.inr v, rfl, .inr ⟨⟨k, by omega, by omega, hp⟩, rfl⟩⟩)
    · rcases hi with rfl | ⟨rfl, hle⟩
      · exact .inl ⟨fun q h1 h2 => hI q h1 (by omega), rfl⟩
      · exact .inl ⟨fun q h1 h2 => by omega, rfl⟩
  obtain ⟨r, hr, ⟨h1, rfl⟩ | ⟨h1, rfl⟩⟩ := H
  · exact .inl ⟨h1, hr⟩
  · exact .inr ⟨h1, hr⟩
def nd (l : List Int) (i : Nat) : Int := (l[i]?).getD 0
theorem nd_read {l : List Int} {i : Nat} (h : i < l.length) : M.Conv (M.idx l (i : Int)) (nd l i) := by
  have : l[i]? = some (l[i]'h) := List.getElem?_eq_getElem _
  refine M.Conv_idx ?_
  unfold nd; rw [this]; rfl
def OkNodes (n : Nat) (l : List Int) : Prop := ∀ i, i < l.length → (0 ≤ nd l i ∧ nd l i ≤ (n : Int) - 1) ∧ (0 < i → nd l (i - 1) < nd l i)
theorem OkNodes.len {n : Nat} {l : List Int} (h : OkNodes n l) : l.length ≤ n := by
  have key : ∀ i, i < l.length → (i : Int) ≤ nd l i := by
    intro i
    induction i with
    | zero => intro hi; have := (h 0 hi).1; omega
    | succ i ih => intro hi; have := (h (i + 1) hi).2 (by omega); have := ih (by omega); simp only [Nat.add_sub_cancel] at *; omega
  by_cases e : l.length = 0
  · omega
  · have := key (l.length - 1) (by omega)
    have := (h (l.length - 1) (by omega)).1
    omega
def bitsL (s : Nat) : Nat → List Int
  | 0 => []
  | m + 1 => bif bitN s m == 1 then bitsL s m ++ [(m : Int)] else bitsL s m
theorem bitsL_len (s : Nat) : ∀ m, (bitsL s m).length ≤ m
  | 0 => by simp [bitsL]
  | m + 1 => by have := bitsL_len s m; unfold bitsL; cases (bitN s m == 1) <;> simp <;> omega
theorem bitsL_ok (s : Nat) : ∀ m, OkNodes m (bitsL s m)
  | 0 => fun i h => by simp [bitsL] at h
  | m + 1 => by
    have ih := bitsL_ok s m
    unfold bitsL
    cases (bitN s m == 1) with
    | false => intro i hi; simp only [cond_false] at hi ⊢; have := ih i hi; exact ⟨⟨this.1.1, by omega⟩, this.2⟩
    | true =>
      intro i hi
      simp only [cond_true, List.length_append, List.length_cons, List.length_nil] at hi ⊢
      have hnd : ∀ k, k < (bitsL s m).length → nd (bitsL s m ++ [(m : Int)]) k = nd (bitsL s m) k := fun k hk => by unfold nd; rw [List.getElem?_append_left hk]
      by_cases e : i < (bitsL s m).length
      · have := ih i e
        rw [hnd i e]
        refine ⟨⟨this.1.1, by omega⟩, fun h0 => ?_⟩
        rw [hnd (i - 1) (by omega)]
        exact this.2 h0
      · obtain rfl : i = (bitsL s m).length := by omega
        have hl : nd (bitsL s m ++ [(m : Int)]) (bitsL s m).length = m := by unfold nd; rw [List.getElem?_append_right (Nat.le_refl _)]; simp
        rw [hl]
        refine ⟨⟨by omega, by omega⟩, fun h0 => ?_⟩
        rw [hnd _ (by omega)]
        have := (ih ((bitsL s m).length - 1) (by omega)).1
        omega
theorem bitsU {s n : Nat} (hs : s < 1024) (hn : n ≤ 10) {f : Int → List Int → M (List Int ⊕ List Int)} (h : ∀ (i : Nat) (t : List Int), i < n → t.length ≤ 10 → M.Conv (f i t) (.inl (bif bitN s i == 1 then t ++ [(i : Int)] else t))) : M.Conv (M.forI 0 (n : Int) (fun s => s) f []) (bitsL s n) :=
  Conv_forV (fun i => bitsL s i) (by omega) fun i hi => by
    have := bitsL_len s i
    exact (h i (bitsL s i) hi (by omega)).of rfl
theorem get_row' {l : List Int} {i : Nat} {x : Int} (h : l[i]? = some x) : M.Conv (M.idx l (i : Int)) x := M.Conv_idx h
theorem Conv_forK {σ ρ : Type} {n k : Nat} {f : Int → σ → M (σ ⊕ ρ)} {fin : σ → ρ} {r : ρ} (st : Nat → σ) (hn : n ≤ 9223372036854775807) (hk : k ≤ n) (h : ∀ i, i < k → M.Conv (f i (st i)) (.inl (st (i + 1))))
    (hs : k < n → M.Conv (f k (st k)) (.inr r)) (he : k = n → fin (st k) = r) : M.Conv (M.forI 0 (n : Int) fin f (st 0)) r := by
  apply M.TC.conv
  refine M.TC_for (fun i s => ∃ q : Nat, i = (q : Int) ∧ q ≤ k ∧ s = st q) _ (by omega) (by omega) ⟨0, rfl, by omega, rfl⟩ (fun i s h1 h2 hI => ?_) (fun i s hi hI => ?_)
  · obtain ⟨q, rfl, hq, rfl⟩ := hI
    by_cases e : q < k
    · exact (h q e).tc (.inl ⟨_, rfl, q + 1, by omega, by omega, rfl⟩)
    · obtain rfl : q = k := by omega
      exact (hs (by omega)).tc (.inr ⟨_, rfl, rfl⟩)
  · obtain ⟨q, rfl, hq, rfl⟩ := hI
    obtain rfl : q = k := by omega
    exact he (by omega)
theorem first_diff (a b : List Int) : ∀ n, ∃ k, k ≤ n ∧ (∀ i, i < k → nd a i = nd b i) ∧ (k < n → nd a k ≠ nd b k)
  | 0 => ⟨0, by omega, fun i h => by omega, fun h => by omega⟩
  | n + 1 => by
    obtain ⟨k, h1, h2, h3⟩ := first_diff a b n
    by_cases e : k < n
    · exact ⟨k, by omega, h2, fun _ => h3 e⟩
    · obtain rfl : k = n := by omega
      by_cases q : nd a k = nd b k
      · exact ⟨k + 1, by omega, fun i hi => by
          by_cases z : i = k
          · subst z; exact q
          · exact h2 i (by omega), fun h => by omega⟩
      · exact ⟨k, by omega, h2, fun _ => q⟩
theorem cmp_ok (x y : Int) : M.Conv (cmp_Compare_i x y) (bif decide (x < y) then -1 else bif decide (y < x) then 1 else 0) := by
  unfold cmp_Compare_i
  have hn : ∀ z : Int, M.Conv (cmp_isNaN_i z) false := fun z => (M.Conv_ret _).of (by simp)
  exact M.Conv_bind (hn x) (M.Conv_bind (hn y) (M.Conv_ite (fun t => by cases t) (fun _ => M.Conv_ite (fun t => by cases t) (fun _ => M.Conv_ite2 (fun _ => M.Conv_ret _) (fun _ => M.Conv_ite2 (fun _ => M.Conv_ret _) (fun _ => M.Conv_ret _))))))
theorem less_ok {a b : List Int} (hl : a.length = b.length) (hle : a.length ≤ 1099511627776) : ∃ v : Bool, M.Conv (spec_l01Less a b) v ∧ M.Conv (M.bind (slices_Compare_int a b) (fun x7 => M.ret (decide (x7 < 0)))) v := by
  obtain ⟨k, h1, h2, h3⟩ := first_diff a b a.length
  refine ⟨decide (k < a.length) && decide (nd a k < nd b k), ?_, ?_⟩
  · unfold spec_l01Less
    refine M.Conv_bind (x := (bif decide (k < a.length) then .inr (decide (nd a k < nd b k)) else .inl (k : Int))) ?_ ?_
    · refine conv_up0 (fun i => (i : Int)) (n := k) (k0 := 0) rfl (by omega) (fun i _ hi => ?_) ?_
      · refine M.Conv_ite (fun _ => M.Conv_bind (nd_read (by omega)) (M.Conv_bind (nd_read (by omega)) (M.Conv_ite (fun t => ?_) (fun _ => (M.Conv_ret _).of ?_)))) (fun t => ?_)
        · rw [h2 i hi] at t; simp at t
        · rw [w64_eq _ (by omega)]; simp
        · exfalso; revert t; simp; omega
      · by_cases e : k < a.length
        · rw [decide_eq_true e]
          refine M.Conv_ite (fun _ => M.Conv_bind (nd_read e) (M.Conv_bind (nd_read (by omega)) (M.Conv_ite (fun _ => M.Conv_bind (nd_read e) (M.Conv_bind (nd_read (by omega)) (M.Conv_ret _))) (fun t => ?_)))) (fun t => ?_)
          · exact absurd (by simpa using t) (h3 e)
          · exfalso; revert t; simp; omega
        · rw [decide_eq_false e]
          refine M.Conv_ite (fun t => ?_) (fun _ => M.Conv_ret _)
          exfalso; revert t; simp; omega
    · by_cases e : k < a.length
      · rw [decide_eq_true e]; exact M.Conv_ret _
      · rw [decide_eq_false e]; exact (M.Conv_ret _).of (by simp [hl])
  · unfold slices_Compare_int
    refine M.Conv_bind (x := bif decide (k < a.length) then (bif decide (nd a k < nd b k) then -1 else bif decide (nd b k < nd a k) then 1 else 0) else 0) (M.Conv_bind (x := (bif decide (k < a.length) then .inr (bif decide (nd a k < nd b k) then -1 else bif decide (nd b k < nd a k) then 1 else 0) else .inl ())) ?_ ?_) ((M.Conv_ret _).of ?_)
    · refine Conv_forK (fun _ => ()) (k := k) (by omega) h1 (fun i hi => ?_) (fun e => ?_) (fun e => ?_)
      · refine M.Conv_bind (nd_read (by omega)) (M.Conv_ite (fun t => by simp at t; omega) (fun _ => M.Conv_bind (nd_read (by omega)) (M.Conv_bind (cmp_ok _ _) ?_)))
        rw [h2 i hi]
        simp only [Int.lt_irrefl, decide_false, cond_false]
        exact M.Conv_ite (fun t => by simp at t) (fun _ => M.Conv_ret _)
      · rw [decide_eq_true e]
        refine M.Conv_bind (nd_read e) (M.Conv_ite (fun t => by simp at t; omega) (fun _ => M.Conv_bind (nd_read (by omega)) (M.Conv_bind (cmp_ok _ _) (M.Conv_ite (fun _ => M.Conv_ret _) (fun t => ?_)))))
        exfalso
        have hne := h3 e
        by_cases q : nd a k < nd b k
        · rw [decide_eq_true q] at t; simp at t
        · rw [decide_eq_false q, decide_eq_true (show nd b k < nd a k by omega)] at t; simp at t
      · rw [decide_eq_false (by omega)]; rfl
    · by_cases e : k < a.length
      · rw [decide_eq_true e]; exact M.Conv_ret _
      · rw [decide_eq_false e]; exact M.Conv_ite (fun t => by simp [hl] at t) (fun _ => M.Conv_ret _)
    · by_cases e : k < a.length
      · rw [decide_eq_true e]
        by_cases q : nd a k < nd b k
        · rw [decide_eq_true q]; rfl
        · rw [decide_eq_false q]; cases decide (nd b k < nd a k) <;> rfl
      · rw [decide_eq_false e]; rfl
def hitB (a : List (List Int)) (b x : List Int) (i : Nat) (j : Int) : Bool := timesI (entA a i j.toNat) (nd x j.toNat) == nd b i
def covB (a : List (List Int)) (b x : List Int) (l : List Int) (i : Nat) : Bool := (nd b i == (-1000000000000000)) || l.any (hitB a b x i)
def covV (a : List (List Int)) (b x l : List Int) : Bool := (List.range b.length).all (covB a b x l)
theorem cov_val {a : List (List Int)} {b x l : List Int} {w : Nat} (hm : Mat a w) (hb : b.length = a.length) (hx : x.length = w) (hl : OkNodes w l) :
    M.Conv (spec_l08Covers a b x l) (covV a b x l) ∧ M.Conv (impl_coversVector a b x l) (covV a b x l) := by
  have hr := hm.rows
  have hc := hm.cols
  have hll := hl.len
  have rd : ∀ (i : Nat) (q : Nat) (j : Int), i < b.length → l[q]? = some j → ∃ r, M.Conv (M.idx a (i : Int)) r ∧ M.Conv (M.idx r j) (entA a i j.toNat) ∧ M.Conv (M.idx x j) (nd x j.toNat) := by
    intro i q j hi hq
    have hq' := (List.getElem?_eq_some_iff.1 hq).1
    have hj := (hl q hq').1
    have e : nd l q = j := by unfold nd; rw [hq]; rfl
    rw [e] at hj
    obtain ⟨r, c1, _, c2⟩ := ent_read hm.shp (i := i) (j := j.toNat) (by omega) (by omega)
    have c3 := nd_read (l := x) (i := j.toNat) (by omega)
    rw [Int.toNat_of_nonneg hj.1] at c2 c3
    exact ⟨r, c1, c2, c3⟩
  have hS := Conv_check (ρ := Bool) (n := b.length) (lo := 0) (f := (fun i1 => (fun (_ : Unit) => M.bind (M.idx b i1) (fun x2 => M.bind (M.forI 0 (l.length : Int) (fun s => s) (fun i2 => (fun (s3 : Bool) => M.bind (M.ite s3 (M.ret true) (M.bind (M.idx a i1) (fun x5 => M.bind (M.idx l i2) (fun x6 => M.bind (M.idx x5 x6) (fun x7 => M.bind (M.idx l i2) (fun x8 => M.bind (M.idx x x8) (fun x9 => M.bind (spec_l01Times x7 x9) (fun x10 => M.bind (M.idx b i1) (fun x11 => M.ret (x10 == x11)))))))))) (fun x4 => M.ret (.inl x4)))) (x2 == (-1000000000000000))) (fun x3 => M.ite (!x3) (M.ret (.inr (.inr false))) (M.ret (.inl ()))))))) (fun i => covB a b x l i = true) false (by omega) (fun i _ hi => by
    have inner : M.Conv (M.forI 0 (l.length : Int) (fun s => s) (fun i2 => (fun (s3 : Bool) => M.bind (M.ite s3 (M.ret true) (M.bind (M.idx a (i : Int)) (fun x5 => M.bind (M.idx l i2) (fun x6 => M.bind (M.idx x5 x6) (fun x7 => M.bind (M.idx l i2) (fun x8 => M.bind (M.idx x x8) (fun x9 => M.bind (spec_l01Times x7 x9) (fun x10 => M.bind (M.idx b (i : Int)) (fun x11 => M.ret (x10 == x11)))))))))) (fun x4 => M.ret (.inl x4)))) (nd b i == (-1000000000000000))) (covB a b x l i) := by
      refine (M.Conv_fold (l := l) (fun s j => s || hitB a b x i j) (by omega) (fun q j s hq => ?_)).of ?_
      · obtain ⟨r, c1, c2, c3⟩ := rd i q j hi hq
        exact M.Conv_bind (Conv_or fun _ => M.Conv_bind c1 (M.Conv_bind (get_row' hq) (M.Conv_bind c2 (M.Conv_bind (get_row' hq) (M.Conv_bind c3 (M.Conv_bind (spec_l01Times_ok _ _) (M.Conv_bind (nd_read hi) (M.Conv_ret _)))))))) (M.Conv_ret _)
      · have g : ∀ (l : List Int) (s : Bool), l.foldl (fun s j => s || hitB a b x i j) s = (s || l.any (hitB a b x i)) := by
          intro l
          induction l with
          | nil => intro s; simp
          | cons y ys ih => intro s; rw [List.foldl_cons, ih, List.any_cons, Bool.or_assoc]
        exact g l _
    cases hcv : covB a b x l i with
    | true => exact .inl ⟨rfl, M.Conv_bind (nd_read hi) (M.Conv_bind inner (by rw [hcv]; exact M.Conv_ite (fun t => by simp at t) (fun _ => M.Conv_ret _)))⟩
    | false => exact .inr ⟨by simp, M.Conv_bind (nd_read hi) (M.Conv_bind inner (by rw [hcv]; exact M.Conv_ite (fun _ => M.Conv_ret _) (fun t => by simp at t)))⟩)
  have hI := Conv_check (ρ := Bool) (n := b.length) (lo := 0) (f := (fun i1 => (fun (_ : Unit) => M.bind (M.idx b i1) (fun x2 => M.bind (M.ite (x2 != (-1000000000000000)) (M.bind (slices_ContainsFunc_int_F_impl_coversVector_1 l a i1 x x2) (fun x4 => M.ret (!x4))) (M.ret false)) (fun x3 => M.ite x3 (M.ret (.inr (.inr false))) (M.ret (.inl ()))))))) (fun i => covB a b x l i = true) false (by omega) (fun i _ hi => by
    have hcon : M.Conv (slices_ContainsFunc_int_F_impl_coversVector_1 l a (i : Int) x (nd b i)) (l.any (hitB a b x i)) := by
      unfold slices_ContainsFunc_int_F_impl_coversVector_1 slices_IndexFunc_int_F_impl_coversVector_1
      refine contains_ok (hitB a b x i) (by omega) fun q j hq => ?_
      obtain ⟨r, c1, c2, c3⟩ := rd i q j hi hq
      refine M.Conv_bind (get_row' hq) (M.Conv_bind (x := hitB a b x i j) (M.Conv_bind c1 (M.Conv_bind c2 (M.Conv_bind c3 (M.Conv_bind (impl_times_ok _ _) (M.Conv_ret _))))) ?_)
      cases hitB a b x i j <;> exact M.Conv_ret _
    have h2 : M.Conv (M.ite (nd b i != (-1000000000000000)) (M.bind (slices_ContainsFunc_int_F_impl_coversVector_1 l a (i : Int) x (nd b i)) (fun x4 => M.ret (!x4))) (M.ret false)) (!(covB a b x l i)) := by
      unfold covB
      refine M.Conv_ite (fun t => M.Conv_bind hcon ((M.Conv_ret _).of ?_)) (fun t => (M.Conv_ret _).of ?_)
      · rw [show (nd b i == (-1000000000000000)) = false by simpa using t, Bool.false_or]
      · rw [show (nd b i == (-1000000000000000)) = true by simpa using t]; rfl
    cases hcv : covB a b x l i with
    | true => rw [hcv] at h2; exact .inl ⟨rfl, M.Conv_bind (nd_read hi) (M.Conv_bind h2 (M.Conv_ite (fun t => by simp at t) (fun _ => M.Conv_ret _)))⟩
    | false => rw [hcv] at h2; exact .inr ⟨by simp, M.Conv_bind (nd_read hi) (M.Conv_bind h2 (M.Conv_ite (fun _ => M.Conv_ret _) (fun t => by simp at t)))⟩)
  have hv : ∀ v : Bool, (v = true ↔ ∀ i, 0 ≤ i → i < b.length → covB a b x l i = true) → covV a b x l = v := by
    intro v h
    rw [Bool.eq_iff_iff, h]
    unfold covV
    rw [List.all_eq_true]
    exact ⟨fun H i _ hi => H i (List.mem_range.2 hi), fun H i hi => H i (by omega) (List.mem_range.1 hi)⟩
  rcases hS with ⟨h1, h2⟩ | ⟨⟨i, hi1, hi2, hi3⟩, h2⟩
  · rcases hI with ⟨_, k2⟩ | ⟨⟨i, hi1, hi2, hi3⟩, _⟩
    · rw [hv true ⟨fun _ => h1, fun _ => rfl⟩]
      exact ⟨M.Conv_bind h2 (M.Conv_ret _), M.Conv_bind k2 (M.Conv_ret _)⟩
    · exact absurd (h1 i hi1 hi2) hi3
  · rcases hI with ⟨k1, _⟩ | ⟨_, k2⟩
    · exact absurd (k1 i hi1 hi2) hi3
    · rw [hv false ⟨fun h => by simp at h, fun h => absurd (h i hi1 hi2) hi3⟩]
      exact ⟨M.Conv_bind h2 (M.Conv_ret _), M.Conv_bind k2 (M.Conv_ret _)⟩
theorem cov_same {a : List (List Int)} {b x l : List Int} {w : Nat} (hm : Mat a w) (hb : b.length = a.length) (hx : x.length = w) (hl : OkNodes w l) :
    ∃ v : Bool, M.Conv (spec_l08Covers a b x l) v ∧ M.Conv (impl_coversVector a b x l) v := ⟨_, cov_val hm hb hx hl⟩
theorem M.Conv_bind_assoc {α β γ : Type} {m : M α} {f : α → M β} {g : β → M γ} {x : α} {r : γ} (h : M.Conv m x) (h' : M.Conv (M.bind (f x) g) r) : M.Conv (M.bind (M.bind m f) g) r := by
  obtain ⟨N, h⟩ := h
  obtain ⟨N', h'⟩ := h'
  refine ⟨max N N', fun n hn => ?_⟩
  have := h' n (by omega)
  simp only [M.bind, h n (by omega)] at this ⊢
  exact this
theorem seq_of {σ : Type} (P : Nat → σ → σ → Prop) (I : Nat → σ → Prop) (s0 : σ) (h0 : I 0 s0) : ∀ K : Nat, (∀ k s, k < K → I k s → ∃ s', P k s s' ∧ I (k + 1) s') → ∃ st : Nat → σ, st 0 = s0 ∧ (∀ k, k < K → P k (st k) (st (k + 1))) ∧ (∀ k, k ≤ K → I k (st k))
  | 0, _ => ⟨fun _ => s0, rfl, fun k h => by omega, fun k h => (show k = 0 by omega) ▸ h0⟩
  | K + 1, h => by
    obtain ⟨st, e, h1, h2⟩ := seq_of P I s0 h0 K (fun k s hk => h k s (by omega))
    obtain ⟨s', p, i⟩ := h K (st K) (by omega) (h2 K (Nat.le_refl _))
    refine ⟨fun k => if k ≤ K then st k else s', by simp [e], fun k hk => ?_, fun k hk => ?_⟩
    · show P k (if k ≤ K then st k else s') (if k + 1 ≤ K then st (k + 1) else s')
      by_cases q : k = K
      · subst q; rw [if_pos (Nat.le_refl _), if_neg (by omega)]; exact p
      · rw [if_pos (by omega), if_pos (by omega)]; exact h1 k (by omega)
    · show I k (if k ≤ K then st k else s')
      by_cases q : k = K + 1
      · subst q; rw [if_neg (by omega)]; exact i
      · rw [if_pos (by omega)]; exact h2 k (by omega)
theorem same_LeastCover (a : List (List Int)) (_ : fitL (fitL inI64) a) (b : List Int) (_ : fitL inI64 b) (sa : smII a) (sb : smI b) : Two (spec_LeastCover a b) (impl_LeastCover a b) (fun w => smI w.1) := by
  have s0 : smI ([] : List Int) := by simp [smI]
  unfold spec_LeastCover impl_LeastCover
  rcases resid_cases sa sb with ⟨code, hc, h1, h2⟩ | ⟨h1, h2, h3, h4⟩
  · exact Two.left h1 (Two.right h2 (Two.iteL (fun _ => Two.iteR (fun _ => Two.ret _ s0) (fun t => by rw [ne0 hc] at t; cases t)) (fun t => by rw [ne0 hc] at t; cases t)))
  have hm := h4.mat
  have hr := hm.rows
  have hcl := hm.cols
  have hbl := h4.len
  have hxl : (subL a b).length = widthN a := subL_len a b
  refine Two.left h1 (Two.right h2 (Two.iteL (fun t => by simp at t) (fun _ => Two.iteR (fun t => by simp at t) (fun _ => ?_))))
  refine Two.left h3 (Two.bindC (spec_l02Apply_ok hm hxl) (impl_timesVector_ok hm hxl) ?_)
  refine Two.bindC (spec_l01Same_ok (by simp; omega)) (slices_Equal_int_ok (by simp; omega)) (Two.ite (fun _ => Two.ret _ s0) (fun _ => ?_))
  simp only
  generalize subL a b = x at hxl
  obtain ⟨hshU, hsh, hN, hN1, hwr⟩ := pow_ok (n := x.length) (by omega)
  unfold impl_leastCover
  rw [hshU, hsh]
  have hok : ∀ s, OkNodes (widthN a) (bitsL s x.length) := fun s => by rw [hxl]; exact bitsL_ok s _
  obtain ⟨st, e0, hst, hI⟩ := seq_of (σ := List Int × Bool) (fun k s s' =>
      M.Conv (M.bind (M.ite ((!s.2) || (decide (((bitsL k x.length).length : Int) < (s.1.length : Int)))) (M.ret true) (M.bind (M.ite (((bitsL k x.length).length : Int) == (s.1.length : Int)) (M.bind (spec_l01Less (bitsL k x.length) s.1) (fun x10 => M.ret x10)) (M.ret false)) (fun x9 => M.ret x9))) (fun x8 => M.bind (M.ite x8 (M.bind (spec_l08Covers a b x (bitsL k x.length)) (fun x12 => M.ret x12)) (M.ret false)) (fun x11 => M.bind (M.ite x11 (M.ret ((bitsL k x.length), true)) (M.ret (s.1, s.2))) (fun (s4 : (List Int) × Bool) => M.ret (Sum.inl (s4.1, s4.2, (w64 ((k : Int) + 1))) : ((List Int) × Bool × Int) ⊕ ((List Int) × Bool × Int)))))) (.inl (s'.1, s'.2, ((k + 1 : Nat) : Int))) ∧
      M.Conv (M.bind (M.bind (impl_coversVector a b x (bitsL k x.length)) (fun x3 => M.ite (!x3) (M.ret (s.1, s.2)) (M.bind (M.ite ((!s.2) || (decide (((bitsL k x.length).length : Int) < (s.1.length : Int)))) (M.ret true) (M.bind (M.ite (((bitsL k x.length).length : Int) == (s.1.length : Int)) (M.bind (slices_Compare_int (bitsL k x.length) s.1) (fun x7 => M.ret (decide (x7 < 0)))) (M.ret false)) (fun x6 => M.ret x6))) (fun x5 => M.ite x5 (M.ret ((bitsL k x.length), true)) (M.ret (s.1, s.2)))))) (fun (s2 : (List Int) × Bool) => M.ret (Sum.inl (s2.1, s2.2) : ((List Int) × Bool) ⊕ ((List Int) × Bool)))) (.inl s'))
    (fun _ s => s.1.length ≤ 10) ([], false) (by simp) (2 ^ x.length) (fun k s hk hs => by
      obtain ⟨vc, c1, c2⟩ := cov_same hm (b := b) (x := x) (l := bitsL k x.length) hbl hxl (hok k)
      have hbk := bitsL_len k x.length
      have hl : ∃ vl : Bool, M.Conv (M.ite (((bitsL k x.length).length : Int) == (s.1.length : Int)) (M.bind (spec_l01Less (bitsL k x.length) s.1) (fun x10 => M.ret x10)) (M.ret false)) vl ∧ M.Conv (M.ite (((bitsL k x.length).length : Int) == (s.1.length : Int)) (M.bind (slices_Compare_int (bitsL k x.length) s.1) (fun x7 => M.ret (decide (x7 < 0)))) (M.ret false)) vl := by
        by_cases e : (bitsL k x.length).length = s.1.length
        · obtain ⟨v, v1, v2⟩ := less_ok e (by omega)
          exact ⟨v, M.Conv_ite (fun _ => M.Conv_bind v1 (M.Conv_ret _)) (fun t => by simp [e] at t), M.Conv_ite (fun _ => v2) (fun t => by simp [e] at t)⟩
        · exact ⟨false, M.Conv_ite (fun t => by simp at t; omega) (fun _ => M.Conv_ret _), M.Conv_ite (fun t => by simp at t; omega) (fun _ => M.Conv_ret _)⟩
      obtain ⟨vl, l1, l2⟩ := hl
      have hnew : ((k : Int) + 1) = ((k + 1 : Nat) : Int) := by omega
      refine ⟨bif vc && (((!s.2) || (decide (((bitsL k x.length).length : Int) < (s.1.length : Int)))) || vl) then (bitsL k x.length, true) else s, ⟨?_, ?_⟩, ?_⟩
      · refine M.Conv_bind (Conv_or fun _ => M.Conv_bind l1 (M.Conv_ret _)) ?_
        generalize (((!s.2) || (decide (((bitsL k x.length).length : Int) < (s.1.length : Int)))) || vl) = pre
        rw [w64_eq _ (by omega), hnew]
        refine M.Conv_bind (x := vc && pre) ?_ ?_
        · cases pre with
          | true => exact M.Conv_ite (fun _ => M.Conv_bind c1 ((M.Conv_ret _).of (by simp))) (fun t => by simp at t)
          | false => exact M.Conv_ite (fun t => by simp at t) (fun _ => (M.Conv_ret _).of (by simp))
        · exact M.Conv_bind (M.Conv_ite2 (fun _ => M.Conv_ret _) (fun _ => M.Conv_ret _)) (M.Conv_ret _)
      · refine M.Conv_bind (x := bif vc && (((!s.2) || (decide (((bitsL k x.length).length : Int) < (s.1.length : Int)))) || vl) then (bitsL k x.length, true) else s) (M.Conv_bind c2 ?_) (M.Conv_ret _)
        cases vc with
        | false => exact M.Conv_ite (fun _ => M.Conv_ret _) (fun t => by simp at t)
        | true =>
          refine M.Conv_ite (fun t => by simp at t) (fun _ => M.Conv_bind (Conv_or fun _ => M.Conv_bind l2 (M.Conv_ret _)) ?_)
          generalize (((!s.2) || (decide (((bitsL k x.length).length : Int) < (s.1.length : Int)))) || vl) = pre
          rw [Bool.true_and]
          exact M.Conv_ite2 (fun _ => M.Conv_ret _) (fun _ => M.Conv_ret _)
      · cases (vc && (((!s.2) || (decide (((bitsL k x.length).length : Int) < (s.1.length : Int)))) || vl))
        · exact hs
        · simp only [cond_true]; omega)
  have hnodesU : ∀ k : Nat, k < 2 ^ x.length → M.Conv (M.forI 0 (x.length : Int) (fun s => s) (fun i1 => (fun (s2 : (List Int)) => M.bind (M.guard (decide (0 ≤ (IntKind.u64.wrap (i1))))) (fun _ => M.bind (M.ite ((ibit .and .i64 (ishr .i64 (k : Int) (IntKind.u64.wrap (i1))) 1) == 1) (M.bind (M.app s2 ([i1] : List Int)) (fun l1 => M.ret l1)) (M.ret s2)) (fun (s3 : (List Int)) => M.ret (.inl s3))))) ([] : List Int)) (bitsL k x.length) := fun k hk =>
    bitsU (s := k) (by omega) (by omega) fun i t hi ht => by
      have hb := bit_ok (s := k) (j := i) (by omega) (by omega)
      refine M.Conv_bind (M.Conv_guard (by rw [hb.wrapU]; simp)) (M.Conv_bind (x := bif bitN k i == 1 then t ++ [(i : Int)] else t) ?_ (M.Conv_ret _))
      rw [hb.andU]
      refine M.Conv_ite (fun q => M.Conv_bind (M.Conv_app (by simp; omega)) ((M.Conv_ret _).of ?_)) (fun q => (M.Conv_ret _).of ?_)
      · rw [show (bitN k i == 1) = true by simp at q ⊢; omega]; rfl
      · rw [show (bitN k i == 1) = false by simp at q ⊢; omega]; rfl
  have hnodes : ∀ k : Nat, k < 2 ^ x.length → M.Conv (M.forI 0 (x.length : Int) (fun s => s) (fun i2 => (fun (s3 : (List Int)) => M.bind (M.guard (decide (0 ≤ i2))) (fun _ => M.bind (M.ite ((ibit .and .i64 (ishr .i64 (k : Int) i2) 1) == 1) (M.bind (M.app s3 ([i2] : List Int)) (fun l1 => M.ret l1)) (M.ret s3)) (fun (s4 : (List Int)) => M.ret (.inl s4))))) []) (bitsL k x.length) := fun k hk =>
    bitsU (s := k) (by omega) (by omega) fun i t hi ht => by
      have hb := bit_ok (s := k) (j := i) (by omega) (by omega)
      refine M.Conv_bind (M.Conv_guard (by simp)) (M.Conv_bind (x := bif bitN k i == 1 then t ++ [(i : Int)] else t) ?_ (M.Conv_ret _))
      rw [hb.and]
      refine M.Conv_ite (fun q => M.Conv_bind (M.Conv_app (by simp; omega)) ((M.Conv_ret _).of ?_)) (fun q => (M.Conv_ret _).of ?_)
      · rw [show (bitN k i == 1) = true by simp at q ⊢; omega]; rfl
      · rw [show (bitN k i == 1) = false by simp at q ⊢; omega]; rfl
  refine Two.left (x := ((st (2 ^ x.length)).1, (st (2 ^ x.length)).2, ((2 ^ x.length : Nat) : Int))) ?_ (Two.right (x := (st (2 ^ x.length)).1) ?_ (Two.ret _ (by have := hI _ (Nat.le_refl _); simp only [smI]; omega)))
  · refine conv_up0 (fun k => ((st k).1, (st k).2, (k : Int))) (n := 2 ^ x.length) (k0 := 0) (by rw [e0]; rfl) (by omega) (fun k _ hk => ?_) ?_
    · refine M.Conv_bind (M.Conv_guard (by simpa using hwr)) (M.Conv_ite (fun _ => M.Conv_bind (hnodesU k hk) (hst k hk).1) (fun t => by have := of_decide_eq_false t; simp only at this; omega))
    · refine M.Conv_bind (M.Conv_guard (by simpa using hwr)) (M.Conv_ite (fun t => by have := of_decide_eq_true t; simp only at this; omega) (fun _ => M.Conv_ret _))
  · refine M.Conv_bind (M.Conv_guard (by simp)) (M.Conv_bind (x := st (2 ^ x.length)) ?_ (M.Conv_ret _))
    rw [← e0]
    refine Conv_forV st (by omega) fun k hk => ?_
    have := (hst k hk).2
    refine M.Conv.of (M.Conv_bind_assoc (hnodes k hk) this) rfl

structure ByC (code : List Int) : Prop where
  len : code.length ≤ 4096
  byte : ∀ x ∈ code, 0 ≤ x ∧ x ≤ 255
structure Src (code : List Int) (s : TL01source) : Prop where
  code_ : s.code = code
  lo : 0 ≤ s.at_
  hi : s.at_ ≤ code.length
  seed : 0 ≤ s.seed ∧ s.seed < 2147483647
theorem Src.mk' {code : List Int} {s : TL01source} {c : List Int} (h : Src code s) (hc : c = code) : Src code ⟨c, s.at_, s.seed⟩ := ⟨hc, h.lo, h.hi, h.seed⟩
theorem tmod_in {x n : Int} (hx : 0 ≤ x) (hn : 0 < n) : 0 ≤ x.tmod n ∧ x.tmod n < n := ⟨Int.tmod_nonneg n hx, Int.tmod_lt_of_pos x hn⟩
theorem tdiv_in {x : Int} (hx : 0 ≤ x) (h : x < 2147483647) : 0 ≤ x.tdiv 31 ∧ x.tdiv 31 < 2147483647 := by
  rw [Int.tdiv_eq_ediv_of_nonneg hx]; omega
theorem from_ok {code : List Int} (hc : ByC code) : M.TC (spec_l01From code) (Src code) := by
  have hl := hc.len
  unfold spec_l01From
  refine M.TC_bind (Mid := fun x => 0 ≤ x.1 ∧ x.1 < 2147483647) (M.TC_loop (fun (s : Int × Int) => (0 ≤ s.1 ∧ s.1 < 2147483647) ∧ 0 ≤ s.2 ∧ s.2 ≤ 4096) (fun s => (4096 - s.2).toNat) (61403, 0) (by simp) fun s hs => ?_) fun x hx => M.TC_ret ⟨rfl, by simp, by simp, hx⟩
  refine M.TC_ite (fun t => ?_) (fun _ => M.TC_ret (.inr ⟨_, rfl, hs.1⟩))
  simp only [Bool.and_eq_true, decide_eq_true_eq] at t
  refine M.TC_bind (Mid := fun x => 0 ≤ x ∧ x ≤ 255) (M.TC_idx hs.2.1 t.1 fun x hx => hc.byte x (List.mem_of_getElem? hx)) fun x hx => M.TC_ret (.inl ⟨_, rfl, ?_, ?_⟩)
  · have e1 : w64 (s.1 * 67) = s.1 * 67 := w64_eq _ (by omega)
    have e2 : w64 x = x := w64_eq _ (by omega)
    have e3 : w64 (s.1 * 67 + x) = s.1 * 67 + x := w64_eq _ (by omega)
    have e4 : w64 (s.2 + 1) = s.2 + 1 := w64_eq _ (by omega)
    simp only [e1, e2, e3, e4]
    exact ⟨tmod_in (by omega) (by omega), by omega, by omega⟩
  · simp only
    rw [w64_eq _ (by omega)]; omega
theorem next_ok {code : List Int} (hc : ByC code) {s : TL01source} (hs : Src code s) (n : Int) (hn : n ≤ 1000000) : M.TC (spec_l01Next s n) (fun r => Src code r.2 ∧ 0 ≤ r.1 ∧ (r.1 < n ∨ (n ≤ 1 ∧ r.1 = 0))) := by
  have hl := hc.len
  obtain ⟨h1, h2, h3, h4⟩ := hs
  unfold spec_l01Next
  refine M.TC_ite (fun t => M.TC_ret ⟨⟨h1, h2, h3, h4⟩, by simp, .inr ⟨by simpa using t, rfl⟩⟩) (fun t => ?_)
  have t : 1 < n := by simpa using t
  have e1 : w64 (s.seed * 48271) = s.seed * 48271 := w64_eq _ (by omega)
  have e2 : w64 (s.seed * 48271 + 59) = s.seed * 48271 + 59 := w64_eq _ (by omega)
  have hsd := tmod_in (x := s.seed * 48271 + 59) (n := 2147483647) (by omega) (by omega)
  simp only [e1, e2]
  generalize (s.seed * 48271 + 59).tmod 2147483647 = sd at hsd ⊢
  have hq := tdiv_in hsd.1 hsd.2
  generalize sd.tdiv 31 = q at hq ⊢
  have e3 : w64 q = q := w64_eq _ (by omega)
  have e4 : w64 (s.at_ + 1) = s.at_ + 1 := w64_eq _ (by omega)
  simp only [e3, e4, h1]
  refine M.TC_bind (Mid := fun (x : Int × Int) => 0 ≤ x.1 ∧ 0 ≤ x.2 ∧ x.2 ≤ code.length) ?_ (fun x hx => M.TC_bind (M.TC_guard (Post := fun _ => True) (by simp; omega) trivial) fun _ _ => M.TC_ret ⟨⟨rfl, hx.2.1, hx.2.2, hsd⟩, (tmod_in hx.1 (by omega)).1, .inl (tmod_in hx.1 (by omega)).2⟩)
  refine M.TC_ite (fun t => ?_) (fun _ => M.TC_ret ⟨hq.1, h2, h3⟩)
  have t : s.at_ < code.length := by simpa using t
  refine M.TC_bind (Mid := fun x => 0 ≤ x ∧ x ≤ 255) (M.TC_idx h2 t fun x hx => hc.byte x (List.mem_of_getElem? hx)) fun x hx => ?_
  refine M.TC_ite (fun _ => ?_) (fun _ => M.TC_ret ⟨?_, by simp only; omega, by simp only; omega⟩)
  · have e5 : w64 (s.at_ + 1 - 1) = s.at_ := by rw [w64_eq _ (by omega)]; omega
    rw [e5]
    refine M.TC_bind (Mid := fun x => 0 ≤ x ∧ x ≤ 255) (M.TC_idx h2 t fun x hx => hc.byte x (List.mem_of_getElem? hx)) fun x hx => M.TC_ret ⟨?_, by simp only; omega, by simp only; omega⟩
    simp only
    rw [w64_eq _ (by omega)]; exact hx.1
  · simp only
    rw [w64_eq x (by omega), w64_eq _ (by omega)]; omega
theorem pick_ok {code : List Int} (hc : ByC code) {s : TL01source} (hs : Src code s) (l : List Int) (h1 : 1 ≤ l.length) (h2 : l.length ≤ 1000) (P : Int → Prop) (hP : ∀ x ∈ l, P x) : M.TC (spec_l01Pick s l) (fun r => Src code r.2.1 ∧ P r.1) := by
  unfold spec_l01Pick
  refine M.TC_bind (next_ok hc hs l.length (by omega)) fun x hx => M.TC_bind (Mid := P) (M.TC_idx hx.2.1 (by omega) fun y hy => hP y (List.mem_of_getElem? hy)) fun y hy => M.TC_ret ⟨hx.1.mk' hs.code_, hy⟩
theorem value_ok {code : List Int} (hc : ByC code) {s : TL01source} (hs : Src code s) : M.TC (spec_l01DrawValue s) (fun r => Src code r.2 ∧ inI64 r.1) := by
  unfold spec_l01DrawValue
  refine M.TC_bind (next_ok hc hs 24 (by omega)) fun x hx => ?_
  refine M.TC_bind (Mid := fun _ => True) (M.TC_ite (fun _ => M.TC_ret trivial) (fun _ => M.TC_ite (fun _ => M.TC_ret trivial) (fun _ => M.TC_ret trivial))) fun b _ => ?_
  refine M.TC_ite (fun _ => M.TC_ret ⟨hx.1.mk' hs.code_, by simp [inI64]⟩) (fun _ => M.TC_ite (fun _ => ?_) (fun _ => M.TC_ite (fun _ => ?_) (fun _ => ?_)))
  · exact M.TC_bind (pick_ok hc (hx.1.mk' hs.code_) _ (by simp) (by simp) inI64 (by simp [inI64])) fun y hy => M.TC_ret ⟨hy.1.mk' hs.code_, hy.2⟩
  · exact M.TC_bind (next_ok hc (hx.1.mk' hs.code_) 2000 (by omega)) fun y hy => M.TC_ret ⟨hy.1.mk' hs.code_, w64_bd _⟩
  · exact M.TC_bind (next_ok hc (hx.1.mk' hs.code_) 41 (by omega)) fun y hy => M.TC_ret ⟨hy.1.mk' hs.code_, w64_bd _⟩
/-- what a drawn matrix is at least: not large, of numbers -/
structure MatS (a : List (List Int)) : Prop where
  rows : a.length ≤ 11
  row : ∀ r ∈ a, r.length ≤ 10 ∧ ∀ x ∈ r, inI64 x
theorem MatS.sm {a : List (List Int)} (h : MatS a) : smII a := ⟨by have := h.rows; omega, fun r hr => by have := (h.row r hr).1; omega⟩
theorem MatS.fit {a : List (List Int)} (h : MatS a) : fitL (fitL inI64) a := ⟨by have := h.rows; omega, fun r hr => ⟨by have := (h.row r hr).1; omega, (h.row r hr).2⟩⟩
theorem MatS.of {m n : Nat} {f : Nat → Nat → Int} (hm : m ≤ 10) (hn : n ≤ 10) (hf : ∀ i j, inI64 (f i j)) : MatS (matF m n f) := by
  refine ⟨by rw [matF_len]; omega, fun r hr => ?_⟩
  simp only [matF, tab, List.mem_map, List.mem_range] at hr
  obtain ⟨i, hi, rfl⟩ := hr
  refine ⟨by simp; omega, fun x hx => ?_⟩
  simp only [List.mem_map, List.mem_range] at hx
  obtain ⟨j, hj, rfl⟩ := hx
  exact hf i j
theorem size_ok {code : List Int} (hc : ByC code) {s : TL01source} (hs : Src code s) (m n : Nat) (hm : 1 ≤ m ∧ m ≤ 10) (hn : 1 ≤ n ∧ n ≤ 10) : M.TC (spec_l02DrawSize s (m : Int) (n : Int)) (fun r => MatS r.1 ∧ Src code r.2) := by
  unfold spec_l02DrawSize
  rw [hs.code_]
  refine M.TC_bindC (spec_l02Bottom_ok (by omega) (by omega)) (M.TC_bind (pick_ok hc hs _ (by simp) (by simp) (fun x => 2 ≤ x ∧ x ≤ 5) (by simp)) fun p hp => ?_)
  refine M.TC_bind (Mid := fun (r : Int × Int × List (List Int)) => Src code ⟨code, r.1, r.2.1⟩ ∧ ∃ f, r.2.2 = matF m n f ∧ ∀ i j, inI64 (f i j)) (M.TC_for (fun _ (r : Int × Int × List (List Int)) => Src code ⟨code, r.1, r.2.1⟩ ∧ ∃ f, r.2.2 = matF m n f ∧ ∀ i j, inI64 (f i j)) _ (by omega) (by omega) ⟨hp.1.mk' rfl, _, rfl, fun _ _ => by simp [inI64]⟩ (fun i r h1 h2 hI => ?_) (fun _ _ _ hI => hI)) fun r hr => ?_
  · refine M.TC_bind (Mid := fun (r : Int × Int × List (List Int)) => Src code ⟨code, r.1, r.2.1⟩ ∧ ∃ f, r.2.2 = matF m n f ∧ ∀ i j, inI64 (f i j)) (M.TC_for (fun _ (r : Int × Int × List (List Int)) => Src code ⟨code, r.1, r.2.1⟩ ∧ ∃ f, r.2.2 = matF m n f ∧ ∀ i j, inI64 (f i j)) _ (by omega) (by omega) hI (fun j r h3 h4 hI => ?_) (fun _ _ _ hI => hI)) fun r hr => M.TC_ret (.inl ⟨_, rfl, hr⟩)
    obtain ⟨hsr, f, hf, hfi⟩ := hI
    refine M.TC_bind (next_ok hc hsr p.1 (by omega)) fun x hx => ?_
    refine M.TC_bind (Mid := fun (r : Int × Int × List (List Int)) => Src code ⟨code, r.1, r.2.1⟩ ∧ ∃ f, r.2.2 = matF m n f ∧ ∀ i j, inI64 (f i j)) (M.TC_ite (fun _ => ?_) (fun _ => M.TC_ret ⟨hx.1.mk' rfl, f, hf, hfi⟩)) fun r hr => M.TC_ret (.inl ⟨_, rfl, hr⟩)
    rw [hf]
    obtain ⟨i', rfl⟩ : ∃ q : Nat, i = (q : Int) := ⟨i.toNat, by omega⟩
    obtain ⟨j', rfl⟩ : ∃ q : Nat, j = (q : Int) := ⟨j.toNat, by omega⟩
    refine M.TC_bindC (idx_tab (by omega)) (M.TC_bind (next_ok hc (hx.1.mk' rfl) 26 (by omega)) fun y hy => ?_)
    refine M.TC_bindC (idx_tab (by omega)) (M.TC_bindC (M.Conv_upd (by rw [tab_len]; omega)) (M.TC_ret ⟨hy.1.mk' rfl, fun p q => if p = i' ∧ q = j' then w64 (y.1 - 10) else f p q, ?_, fun p q => ?_⟩))
    · simp only [Int.toNat_natCast]
      have := matF_set (m := m) (n := n) (i := i') (j := j') (f := f) (g := fun p q => if p = i' ∧ q = j' then w64 (y.1 - 10) else f p q) (fun p q _ _ hpq => by rw [if_neg hpq])
      simpa using this
    · simp only
      split
      · exact w64_bd _
      · exact hfi p q
  · obtain ⟨hsr, f, hf, hfi⟩ := hr
    refine M.TC_bind (next_ok hc hsr 60 (by omega)) fun x hx => ?_
    rw [hf]
    have hM := MatS.of (m := m) (n := n) hm.2 hn.2 hfi
    refine M.TC_ite (fun _ => ?_) (fun _ => M.TC_ite (fun _ => ?_) (fun _ => M.TC_ite (fun _ => ?_) (fun _ => M.TC_ret ⟨hM, hx.1.mk' rfl⟩)))
    · refine M.TC_bindC (idx_tab (i := 0) (by omega)) (M.TC_bind (value_ok hc (hx.1.mk' rfl)) fun y hy => ?_)
      refine M.TC_bindC (idx_tab (i := 0) (by omega)) (M.TC_bindC (M.Conv_upd (i := 0) (by rw [tab_len]; omega)) (M.TC_ret ⟨?_, hy.1.mk' rfl⟩))
      have := matF_set (m := m) (n := n) (i := 0) (j := 0) (f := f) (g := fun p q => if p = 0 ∧ q = 0 then y.1 else f p q) (fun p q _ _ hpq => by rw [if_neg hpq])
      rw [if_pos ⟨rfl, rfl⟩] at this
      rw [this]
      refine MatS.of hm.2 hn.2 fun p q => ?_
      split
      · exact hy.2
      · exact hfi p q
    · refine M.TC_bindC (M.Conv_app (by rw [matF_len]; simp; omega)) (M.TC_ret ⟨⟨by simp [matF_len]; omega, fun r hr => ?_⟩, hx.1.mk' rfl⟩)
      rcases List.mem_append.1 hr with hr | hr
      · exact hM.row r hr
      · simp at hr; subst hr; simp
    · exact M.TC_ret ⟨⟨by simp, by simp⟩, hx.1.mk' rfl⟩

def tvV (a : List (List Int)) (x : List Int) : List Int × Int :=
  bif matB a && vecB x then bif decide (widthN a = x.length) then bif (a.map (dotL x)).all valB then (a.map (dotL x), 0) else ([], 3) else ([], 5) else ([], 1)
theorem tv_both {a : List (List Int)} {x : List Int} (sa : smII a) (sx : smI x) : M.Conv (spec_TimesVector a x) (tvV a x) ∧ M.Conv (impl_TimesVector a x) (tvV a x) := by
  have hx : x.length ≤ 9223372036854775807 := by have := sx; unfold smI at this; omega
  have o1 : M.Conv (M.ite (!(matB a)) (M.ret true) (M.bind (spec_l02Vector x) (fun x3 => M.ret (!x3)))) (!(matB a && vecB x)) := by
    refine (Conv_or (v := !(vecB x)) fun _ => M.Conv_bind (spec_l02Vector_ok hx) (M.Conv_ret _)).of ?_
    rw [Bool.not_and]
  have o2 : M.Conv (M.ite (!(matB a)) (M.ret true) (M.bind (impl_isVector x) (fun x3 => M.ret (!x3)))) (!(matB a && vecB x)) := by
    refine (Conv_or (v := !(vecB x)) fun _ => M.Conv_bind (impl_isVector_ok hx) (M.Conv_ret _)).of ?_
    rw [Bool.not_and]
  unfold spec_TimesVector impl_TimesVector tvV
  cases hmv : (matB a && vecB x) with
  | false =>
    rw [hmv] at o1 o2
    exact ⟨M.Conv_bind (spec_IsMatrix_ok sa) (M.Conv_bind o1 (M.Conv_ite (fun _ => M.Conv_ret _) (fun t => by simp at t))), M.Conv_bind (impl_IsMatrix_ok sa) (M.Conv_bind o2 (M.Conv_ite (fun _ => M.Conv_ret _) (fun t => by simp at t)))⟩
  | true =>
    rw [hmv] at o1 o2
    simp only [Bool.and_eq_true] at hmv
    have hm := matB_mat hmv.1
    have hr := hm.rows
    obtain ⟨r, h0, hl⟩ := head_of_mat hmv.1
    by_cases hw : widthN a = x.length
    · have hne : ((r.length : Int) != (x.length : Int)) = false := by simp; omega
      rw [decide_eq_true hw]
      have hml : (a.map (dotL x)).length = a.length := List.length_map _
      have ev : vecB (a.map (dotL x)) = (a.map (dotL x)).all valB := by simp only [vecB, hml, decide_eq_true hr.1, decide_eq_true hr.2, Bool.true_and]
      refine ⟨M.Conv_bind (spec_IsMatrix_ok sa) (M.Conv_bind o1 (M.Conv_ite (fun t => by simp at t) (fun _ => M.Conv_bind (get_row h0) (M.Conv_ite (fun t => by rw [hne] at t; cases t) (fun _ => M.Conv_bind (spec_l02Apply_ok hm hw.symm) (M.Conv_bind (spec_l02Vector_ok (by omega)) ?_)))))), M.Conv_bind (impl_IsMatrix_ok sa) (M.Conv_bind o2 (M.Conv_ite (fun t => by simp at t) (fun _ => M.Conv_bind (get_row h0) (M.Conv_ite (fun t => by rw [hne] at t; cases t) (fun _ => M.Conv_bind (impl_timesVector_ok hm hw.symm) (M.Conv_bind (impl_checkedVector_ok (by omega)) (M.Conv_ret _)))))))⟩
      rw [ev]
      cases (a.map (dotL x)).all valB
      · exact M.Conv_ite (fun _ => M.Conv_ret _) (fun t => by simp at t)
      · exact M.Conv_ite (fun t => by simp at t) (fun _ => M.Conv_ret _)
    · have hne : ((r.length : Int) != (x.length : Int)) = true := by simp; omega
      rw [decide_eq_false hw]
      exact ⟨M.Conv_bind (spec_IsMatrix_ok sa) (M.Conv_bind o1 (M.Conv_ite (fun t => by simp at t) (fun _ => M.Conv_bind (get_row h0) (M.Conv_ite (fun _ => M.Conv_ret _) (fun t => by rw [hne] at t; cases t))))), M.Conv_bind (impl_IsMatrix_ok sa) (M.Conv_bind o2 (M.Conv_ite (fun t => by simp at t) (fun _ => M.Conv_bind (get_row h0) (M.Conv_ite (fun _ => M.Conv_ret _) (fun t => by rw [hne] at t; cases t)))))⟩
structure VecS (x : List Int) : Prop where
  len : x.length ≤ 20
  mem : ∀ v ∈ x, inI64 v
theorem VecS.sm {x : List Int} (h : VecS x) : smI x := by have := h.len; unfold smI; omega
theorem VecS.fit {x : List Int} (h : VecS x) : fitL inI64 x := ⟨by have := h.len; omega, h.mem⟩
theorem VecS.snoc {x : List Int} {v : Int} (h : VecS x) (hl : x.length ≤ 19) (hv : inI64 v) : VecS (x ++ [v]) := ⟨by simp; omega, fun y hy => by
  rcases List.mem_append.1 hy with hy | hy
  · exact h.mem y hy
  · simp at hy; subst hy; exact hv⟩
theorem VecS.set {x : List Int} {v : Int} (i : Nat) (h : VecS x) (hv : inI64 v) : VecS (x.set i v) := ⟨by rw [List.length_set]; exact h.len, fun y hy => by
  rcases List.mem_or_eq_of_mem_set hy with hy | hy
  · exact h.mem y hy
  · subst hy; exact hv⟩
theorem vector_ok {code : List Int} (hc : ByC code) {s : TL01source} (hs : Src code s) (n : Int) (h0 : 0 ≤ n) (hn : n ≤ 15) : M.TC (spec_l02DrawVector s n) (fun r => VecS r.1 ∧ Src code r.2) := by
  unfold spec_l02DrawVector
  rw [hs.code_]
  refine M.TC_bind (Mid := fun (r : Int × Int × Int × List Int) => Src code ⟨code, r.1, r.2.1⟩ ∧ VecS r.2.2.2 ∧ r.2.2.2.length ≤ 15) (M.TC_loop (fun (r : Int × Int × Int × List Int) => Src code ⟨code, r.1, r.2.1⟩ ∧ VecS r.2.2.2 ∧ 0 ≤ r.2.2.1 ∧ (r.2.2.2.length : Int) + r.2.2.1 ≤ 15) (fun r => r.2.2.1.toNat) _ ⟨hs.mk' rfl, ⟨by simp, by simp⟩, h0, by simp; omega⟩ fun r hI => ?_) fun r hr => ?_
  · obtain ⟨h1, h2, h3, h4⟩ := hI
    refine M.TC_ite (fun t => ?_) (fun _ => M.TC_ret (.inr ⟨_, rfl, h1, h2, by simp only; omega⟩))
    have t : 0 < r.2.2.1 := by simpa using t
    refine M.TC_bind (next_ok hc h1 31 (by omega)) fun x hx => ?_
    refine M.TC_bindC (M.Conv_app (by simp; omega)) (M.TC_bind (next_ok hc (hx.1.mk' rfl) 8 (by omega)) fun y hy => ?_)
    have hv : VecS (r.2.2.2 ++ [w64 (x.1 - 15)]) := h2.snoc (by omega) (w64_bd _)
    have hl : (r.2.2.2 ++ [w64 (x.1 - 15)]).length = r.2.2.2.length + 1 := by simp
    refine M.TC_bind (Mid := fun l => VecS l ∧ l.length = r.2.2.2.length + 1) (M.TC_ite (fun _ => ?_) (fun _ => M.TC_ret ⟨hv, hl⟩)) fun l hl2 => M.TC_ret (.inl ⟨_, rfl, ⟨hy.1.mk' rfl, hl2.1, ?_, ?_⟩, ?_⟩)
    · have e : w64 (((r.2.2.2 ++ [w64 (x.1 - 15)]).length : Int) - 1) = (r.2.2.2.length : Int) := by rw [hl, w64_eq _ (by omega)]; omega
      rw [e]
      refine M.TC_bindC (M.Conv_idx (x := w64 (x.1 - 15)) (by simp)) (M.TC_bindC (M.Conv_upd (by simp)) (M.TC_ret ⟨hv.set _ (by simp [inI64]), by rw [List.length_set, hl]⟩))
    · simp only; rw [w64_eq _ (by omega)]; omega
    · simp only; rw [w64_eq _ (by omega)]; omega
    · simp only; rw [w64_eq _ (by omega)]; omega
  · obtain ⟨h1, h2, h3⟩ := hr
    refine M.TC_bind (next_ok hc h1 60 (by omega)) fun x hx => ?_
    refine M.TC_ite (fun _ => ?_) (fun _ => M.TC_ite (fun _ => M.TC_ret ⟨⟨by simp, by simp⟩, hx.1.mk' rfl⟩) (fun _ => M.TC_ret ⟨h2, hx.1.mk' rfl⟩))
    exact M.TC_bind (value_ok hc (hx.1.mk' rfl)) fun y hy => M.TC_bindC (M.Conv_app (by simp; omega)) (M.TC_ret ⟨h2.snoc (by omega) hy.2, hy.1.mk' rfl⟩)
theorem draw_ok {code : List Int} (hc : ByC code) {s : TL01source} (hs : Src code s) : M.TC (spec_l02Draw s) (fun r => MatS r.1 ∧ Src code r.2) := by
  unfold spec_l02Draw
  rw [hs.code_]
  refine M.TC_bind (next_ok hc hs 4 (by omega)) fun x hx => M.TC_bind (next_ok hc (hx.1.mk' rfl) 4 (by omega)) fun y hy => ?_
  have e1 : w64 (1 + x.1) = ((x.1.toNat + 1 : Nat) : Int) := by rw [w64_eq _ (by omega)]; omega
  have e2 : w64 (1 + y.1) = ((y.1.toNat + 1 : Nat) : Int) := by rw [w64_eq _ (by omega)]; omega
  rw [e1, e2]
  exact M.TC_bind (size_ok hc (hy.1.mk' rfl) _ _ (by omega) (by omega)) fun z hz => M.TC_ret ⟨hz.1, hz.2.mk' rfl⟩
theorem pick2_ok {code : List Int} (hc : ByC code) {s : TL01source} (hs : Src code s) (a b c d : Int) (ha : inI64 a ∧ inI64 b ∧ inI64 c ∧ inI64 d) :
    M.TC (M.bind (spec_l01Pick s ([a, b] : List Int)) (fun x14 => M.bind (spec_l01Pick (⟨s.code, x14.2.1.at_, x14.2.1.seed⟩ : TL01source) ([c, d] : List Int)) (fun x15 => M.ret ([([x14.1] : List Int)], ([x15.1] : List Int), (⟨s.code, x15.2.1.at_, x15.2.1.seed⟩ : TL01source))))) (fun r => MatS r.1 ∧ VecS r.2.1 ∧ Src code r.2.2) := by
  refine M.TC_bind (pick_ok hc hs _ (by simp) (by simp) inI64 (by simp [ha])) fun x hx => M.TC_bind (pick_ok hc (hx.1.mk' hs.code_) _ (by simp) (by simp) inI64 (by simp [ha])) fun y hy => M.TC_ret ⟨⟨by simp, by simp [hx.2]⟩, ⟨by simp, by simp [hy.2]⟩, hy.1.mk' hs.code_⟩
theorem draw8_ok {code : List Int} (hc : ByC code) {s : TL01source} (hs : Src code s) : M.TC (spec_l08Draw s) (fun r => MatS r.1 ∧ VecS r.2.1 ∧ Src code r.2.2) := by
  unfold spec_l08Draw
  rw [hs.code_]
  refine M.TC_bind (draw_ok hc hs) fun a ha => M.TC_bind (next_ok hc (ha.2.mk' rfl) 24 (by omega)) fun x hx => ?_
  have har := ha.1.rows
  refine M.TC_ite (fun _ => ?_) (fun _ => ?_)
  · refine M.TC_bind (vector_ok hc (hx.1.mk' rfl) _ ?_ ?_) fun y hy => M.TC_ret ⟨ha.1, hy.1, hy.2.mk' rfl⟩
    · rw [w64_eq _ (by omega)]; omega
    · rw [w64_eq _ (by omega)]; omega
  · refine M.TC_bind (Mid := fun (r : Int × Int × Bool) => Src code ⟨code, r.1, r.2.1⟩ ∧ (r.2.2 = true → matB a.1 = true)) (M.TC_bindC (spec_IsMatrix_ok ha.1.sm) (M.TC_ite (fun t => M.TC_bind (next_ok hc (hx.1.mk' rfl) 2 (by omega)) fun y hy => M.TC_ret ⟨hy.1.mk' rfl, fun _ => t⟩) (fun _ => M.TC_ret ⟨hx.1.mk' rfl, fun h => by simp at h⟩))) fun r hr => ?_
    refine M.TC_ite (fun t => ?_) (fun _ => ?_)
    · have hmb := hr.2 t
      have hm := matB_mat hmb
      have hcl := hm.cols
      obtain ⟨r0, h0, hl0⟩ := head_of_mat hmb
      refine M.TC_bindC (get_row h0) (M.TC_bind (vector_ok hc hr.1 _ (by omega) (by omega)) fun y hy => M.TC_bindC (tv_both ha.1.sm hy.1.sm).1 ?_)
      refine M.TC_ite (fun t0 => ?_) (fun _ => ?_)
      · have hv : VecS (tvV a.1 y.1).1 ∧ 1 ≤ (tvV a.1 y.1).1.length := by
          revert t0
          unfold tvV
          rw [hmb]
          cases vecB y.1 with
          | false => intro t0; simp at t0
          | true =>
            cases decide (widthN a.1 = y.1.length) with
            | false => intro t0; simp at t0
            | true =>
              cases hv : (a.1.map (dotL y.1)).all valB with
              | false => intro t0; simp at t0
              | true =>
                intro _
                have := hm.rows
                simp only [Bool.and_self, cond_true, List.length_map]
                refine ⟨⟨by simp; omega, fun v hv' => ?_⟩, this.1⟩
                rw [List.all_eq_true] at hv
                have := val_cases (hv v hv')
                unfold inI64; omega
        generalize tvV a.1 y.1 = w at hv
        refine M.TC_bind (next_ok hc (hy.2.mk' rfl) 4 (by omega)) fun z hz => ?_
        refine M.TC_bind (Mid := fun (r : List Int × Int × Int) => VecS r.1 ∧ Src code ⟨code, r.2.1, r.2.2⟩) (M.TC_ite (fun _ => ?_) (fun _ => M.TC_ret ⟨hv.1, hz.1.mk' rfl⟩)) fun u hu => M.TC_ret ⟨ha.1, hu.1, hu.2⟩
        have hwl := hv.1.len
        refine M.TC_bind (next_ok hc (hz.1.mk' rfl) _ (by omega)) fun i hi => M.TC_bind (next_ok hc (hi.1.mk' rfl) 20 (by omega)) fun v hvv => ?_
        refine M.TC_bind (Mid := fun _ => True) (M.TC_idx hi.2.1 (by omega) fun _ _ => trivial) fun _ _ => ?_
        refine M.TC_bind (Mid := VecS) (M.TC_upd hi.2.1 (by omega) (hv.1.set _ (by unfold inI64; omega))) fun l hl => M.TC_ret ⟨hl, hvv.1.mk' rfl⟩
      · refine M.TC_bind (next_ok hc (hy.2.mk' rfl) 40 (by omega)) fun z hz => M.TC_ite (fun _ => pick2_ok hc (hz.1.mk' rfl) _ _ _ _ (by simp [inI64])) (fun _ => ?_)
        exact M.TC_bind (vector_ok hc (hz.1.mk' rfl) _ (by omega) (by omega)) fun u hu => M.TC_ret ⟨ha.1, hu.1, hu.2.mk' rfl⟩
    · refine M.TC_bind (next_ok hc hr.1 40 (by omega)) fun z hz => M.TC_ite (fun _ => pick2_ok hc (hz.1.mk' rfl) _ _ _ _ (by simp [inI64])) (fun _ => ?_)
      exact M.TC_bind (vector_ok hc (hz.1.mk' rfl) _ (by omega) (by omega)) fun u hu => M.TC_ret ⟨ha.1, hu.1, hu.2.mk' rfl⟩
theorem DrawSolveSystem_ok {code : List Int} (hc : ByC code) : M.TC (spec_DrawSolveSystem code) (fun r => MatS r.1 ∧ VecS r.2) := by
  unfold spec_DrawSolveSystem
  exact M.TC_bind (from_ok hc) fun x hx => M.TC_bind (draw8_ok hc hx) fun y hy => M.TC_ret ⟨hy.1, hy.2.1⟩
theorem DrawLeastCover_ok {code : List Int} (hc : ByC code) : M.TC (spec_DrawLeastCover code) (fun r => MatS r.1 ∧ VecS r.2) := by
  unfold spec_DrawLeastCover
  exact M.TC_bind (from_ok hc) fun x hx => M.TC_bind (draw8_ok hc hx) fun y hy => M.TC_ret ⟨hy.1, hy.2.1⟩
theorem likeInts_refl {a : List Int} (h : a.length ≤ 1099511627776) : M.Conv (laws_likeInts a a) true := by
  unfold laws_likeInts
  refine M.Conv_ite (fun t => by simp at t) (fun _ => ?_)
  rcases Conv_check (ρ := Bool) (n := a.length) (lo := 0) (f := (fun i1 => (fun (_ : Unit) => M.bind (M.idx a i1) (fun x2 => M.bind (M.idx a i1) (fun x3 => M.ite (x2 != x3) (M.ret (.inr (.inr false))) (M.ret (.inl ()))))))) (fun _ => True) false (by omega) (fun i _ hi => .inl ⟨trivial, M.Conv_bind (nd_read hi) (M.Conv_bind (nd_read hi) (M.Conv_ite (fun t => by simp at t) (fun _ => M.Conv_ret _)))⟩) with ⟨_, h2⟩ | ⟨⟨i, _, _, h3⟩, _⟩
  · exact M.Conv_bind h2 (M.Conv_ret _)
  · exact absurd trivial h3
theorem foldI_at {σ α : Type} {g : Nat → α → σ → σ} {a : List α} (J : Nat → σ → Prop) : ∀ (l : List α) (i : Nat) (s : σ), (∀ k, l[k]? = a[i + k]?) → J i s → (∀ k x s, a[k]? = some x → J k s → J (k + 1) (g k x s)) → J (i + l.length) (foldI g i l s)
  | [], i, s, _, h, _ => h
  | x :: xs, i, s, hl, h, step => by
    have h0 : a[i]? = some x := by have := hl 0; simpa using this.symm
    have := foldI_at J xs (i + 1) (g i x s) (fun k => by have := hl (k + 1); simp only [List.getElem?_cons_succ] at this; rw [this]; congr 1; omega) (step i x s h0 h) step
    rw [show i + (x :: xs).length = i + 1 + xs.length by simp; omega]
    exact this
theorem ent_at {a : List (List Int)} {i j : Nat} {row : List Int} (h : a[i]? = some row) : entA a i j = (row[j]?).getD 0 := by simp only [entA, h, Option.getD_some]
theorem val_nd {b : List Int} (hb : ∀ x ∈ b, valB x = true) {i : Nat} (hi : i < b.length) : nd b i = -1000000000000000 ∨ (-1000000 ≤ nd b i ∧ nd b i ≤ 1000000) := by
  have : b[i]? = some b[i] := List.getElem?_eq_getElem hi
  have e : nd b i = b[i] := by unfold nd; rw [this]; rfl
  rw [e]
  exact val_cases (hb _ (List.getElem_mem hi))
theorem val_ent {a : List (List Int)} {w i j : Nat} (hm : Mat a w) (hi : i < a.length) (hj : j < w) : entA a i j = -1000000000000000 ∨ (-1000000 ≤ entA a i j ∧ entA a i j ≤ 1000000) := val_cases (ent_val hm hi hj).2.2
structure ColP (a : List (List Int)) (b : List Int) (j : Nat) (x : Int) : Prop where
  band : bandB x
  below : ∀ i, i < a.length → entA a i j ≠ -1000000000000000 → x ≠ -1000000000000000 → nd b i ≠ -1000000000000000 ∧ entA a i j + x ≤ nd b i
  tight : ∃ i, i < a.length ∧ entA a i j ≠ -1000000000000000 ∧ (nd b i = -1000000000000000 ∨ (x ≠ -1000000000000000 ∧ entA a i j + x = nd b i))
theorem colS_props {a : List (List Int)} {b : List Int} {w j : Nat} (hm : Mat a w) (hj : j < w) (hl : b.length = a.length) (hb : ∀ x ∈ b, valB x = true) (hf : (colS a b j).2 = true) : ColP a b j (colS a b j).1 := by
  have hband := colS_band hm hj hb
  have quo : ∀ i, i < a.length → entA a i j ≠ -1000000000000000 → (nd b i = -1000000000000000 ∧ quoC b i (entA a i j) = -1000000000000000) ∨ (nd b i ≠ -1000000000000000 ∧ quoC b i (entA a i j) = nd b i - entA a i j) := by
    intro i hi hne
    have h1 := val_nd hb (i := i) (by omega)
    have h2 := val_ent hm hi hj
    unfold quoC
    change (nd b i = _ ∧ (bif nd b i == _ then _ else w64 (nd b i - _)) = _) ∨ (_ ∧ (bif nd b i == _ then _ else w64 (nd b i - _)) = _)
    by_cases e : nd b i = -1000000000000000
    · left; rw [e]; exact ⟨rfl, rfl⟩
    · right
      rw [show (nd b i == -1000000000000000) = false by simpa using e]
      exact ⟨e, w64_eq _ (by omega)⟩
  have inv := foldI_at (g := stepC b j) (a := a) (fun k (s : Int × Bool) => k ≤ a.length ∧ (s.2 = false → ∀ i, i < k → entA a i j = -1000000000000000) ∧ (s.2 = true → (∀ i, i < k → entA a i j ≠ -1000000000000000 → s.1 ≤ quoC b i (entA a i j)) ∧ ∃ i, i < k ∧ entA a i j ≠ -1000000000000000 ∧ s.1 = quoC b i (entA a i j))) a 0 (0, false) (fun k => by simp) ⟨by omega, fun _ i h => by omega, fun h => by simp at h⟩ (fun k row s hr hI => by
    obtain ⟨_, h1, h2⟩ := hI
    have hk := (List.getElem?_eq_some_iff.1 hr).1
    have he := ent_at (j := j) hr
    unfold stepC
    rw [← he]
    cases hz : (entA a k j == (-1000000000000000)) with
    | true =>
      have hz : entA a k j = -1000000000000000 := by simpa using hz
      refine ⟨by omega, fun hs i hi => ?_, fun hs => ?_⟩
      · by_cases e : i = k
        · subst e; exact hz
        · exact h1 hs i (by omega)
      · obtain ⟨g1, i0, g2, g3, g4⟩ := h2 hs
        refine ⟨fun i hi hne => ?_, i0, by omega, g3, g4⟩
        by_cases e : i = k
        · subst e; exact absurd hz hne
        · exact g1 i (by omega) hne
    | false =>
      have hz : entA a k j ≠ -1000000000000000 := by simpa using hz
      simp only [cond_false]
      cases hs : s.2 with
      | false =>
        simp only [Bool.not_false, Bool.true_or, cond_true]
        refine ⟨by omega, fun h => by simp at h, fun _ => ⟨fun i hi hne => ?_, k, by omega, hz, rfl⟩⟩
        by_cases e : i = k
        · subst e; exact Int.le_refl _
        · exact absurd (h1 hs i (by omega)) hne
      | true =>
        obtain ⟨g1, i0, g2, g3, g4⟩ := h2 hs
        simp only [Bool.not_true, Bool.false_or]
        by_cases hlt : quoC b k (entA a k j) < s.1
        · rw [decide_eq_true hlt]
          refine ⟨by omega, fun h => by simp at h, fun _ => ⟨fun i hi hne => ?_, k, by omega, hz, rfl⟩⟩
          simp only [cond_true]
          by_cases e : i = k
          · subst e; exact Int.le_refl _
          · have := g1 i (by omega) hne; omega
        · rw [decide_eq_false hlt]
          simp only [cond_false]
          refine ⟨by omega, fun h => (by rw [hs] at h; cases h), fun _ => ⟨fun i hi hne => ?_, i0, by omega, g3, g4⟩⟩
          by_cases e : i = k
          · subst e; omega
          · exact g1 i (by omega) hne)
  obtain ⟨_, _, h2⟩ := inv
  obtain ⟨g1, i0, g2, g3, g4⟩ := h2 hf
  rw [Nat.zero_add] at g1 g2
  refine ⟨hband, fun i hi hne hx => ?_, i0, g2, g3, ?_⟩
  · have h := g1 i hi hne
    change (colS a b j).1 ≤ _ at h
    rcases quo i hi hne with ⟨q1, q2⟩ | ⟨q1, q2⟩
    · rw [q2] at h
      rcases hband with hb' | hb'
      · exact absurd hb' hx
      · omega
    · exact ⟨q1, by omega⟩
  · change (colS a b j).1 = _ at g4
    rcases quo i0 g2 g3 with ⟨q1, q2⟩ | ⟨q1, q2⟩
    · exact .inl q1
    · right
      have h1 := val_nd hb (i := i0) (by omega)
      have h2 := val_ent hm g2 hj
      omega
def chkV (x : List Int) : List Int × Int := bif x.all valB then (x, 0) else ([], 3)
theorem subL_nd {a : List (List Int)} {b : List Int} {j : Nat} (hj : j < widthN a) : nd (subL a b) j = (colS a b j).1 := by
  unfold nd subL
  rw [List.getElem?_map, List.getElem?_range hj]; rfl
theorem sub_cases {a : List (List Int)} {b : List Int} (sa : smII a) (sb : smI b) :
    (∃ code, code ≠ 0 ∧ M.Conv (impl_greatestSub a b) ([], code) ∧ M.Conv (impl_GreatestSub a b) ([], code) ∧ M.Conv (impl_BestBelow a b) ([], code) ∧ M.Conv (impl_SolveSystem a b) ([], code) ∧ M.Conv (impl_LargestGap a b) (0, code)) ∨
    (Resid a b ∧ (∀ j, j < widthN a → ColP a b j (nd (subL a b) j)) ∧ M.Conv (impl_greatestSub a b) (subL a b, 0) ∧ M.Conv (impl_GreatestSub a b) (chkV (subL a b)) ∧ M.Conv (impl_BestBelow a b) (chkV (a.map (dotL (subL a b)))) ∧
      M.Conv (impl_SolveSystem a b) (bif decide (a.map (dotL (subL a b)) = b) then chkV (subL a b) else ([], 4)) ∧ M.TC (impl_LargestGap a b) (fun w => 0 ≤ w.1)) := by
  have hcode := spec_l08Code_ok sa sb
  rcases resid_cases sa sb with ⟨code, hc, h1, h2⟩ | ⟨h1, h2, h3, hr⟩
  · refine .inl ⟨code, hc, h2, ?_, ?_, ?_, ?_⟩
    · exact M.Conv_bind h2 (M.Conv_ite (fun _ => M.Conv_ret _) (fun t => by rw [ne0 hc] at t; cases t))
    · exact M.Conv_bind h2 (M.Conv_ite (fun _ => M.Conv_ret _) (fun t => by rw [ne0 hc] at t; cases t))
    · exact M.Conv_bind h2 (M.Conv_ite (fun _ => M.Conv_ret _) (fun t => by rw [ne0 hc] at t; cases t))
    · exact M.Conv_bind h2 (M.Conv_ite (fun _ => M.Conv_ret _) (fun t => by rw [ne0 hc] at t; cases t))
  · have hu := h1.unique hcode
    have hf : fitsB a b = true := by
      cases hmv : (matB a && vecB b) with
      | false => rw [hmv] at hu; simp at hu
      | true =>
        rw [hmv] at hu
        cases hd : decide (a.length = b.length) with
        | false => rw [hd] at hu; simp at hu
        | true =>
          rw [hd] at hu
          cases hf : fitsB a b with
          | false => rw [hf] at hu; simp at hu
          | true => rfl
    have hm := hr.mat
    have hrw := hm.rows
    have hcl := hm.cols
    have hl := subL_len a b
    have hml : (a.map (dotL (subL a b))).length = a.length := List.length_map _
    have hchk : ∀ x : List Int, x.length ≤ 10 → M.Conv (impl_checkedVector x) (chkV x) := fun x hx => impl_checkedVector_ok (by omega)
    have hc1 := hchk (subL a b) (by omega)
    have hc2 := hchk (a.map (dotL (subL a b))) (by omega)
    have hq := slices_Equal_int_ok (a := a.map (dotL (subL a b))) (b := b) (by omega)
    refine .inr ⟨hr, fun j hj => ?_, h2, ?_, ?_, ?_, ?_⟩
    · rw [subL_nd hj]
      refine colS_props hm hj hr.len hr.vec ?_
      unfold fitsB at hf
      rw [List.all_eq_true] at hf
      exact hf j (List.mem_range.2 hj)
    · exact M.Conv_bind h2 (M.Conv_ite (fun t => by simp at t) (fun _ => M.Conv_bind hc1 (M.Conv_ret _)))
    · exact M.Conv_bind h2 (M.Conv_ite (fun t => by simp at t) (fun _ => M.Conv_bind (impl_timesVector_ok hm hl) (M.Conv_bind hc2 (M.Conv_ret _))))
    · refine M.Conv_bind h2 (M.Conv_ite (fun t => by simp at t) (fun _ => M.Conv_bind (impl_timesVector_ok hm hl) (M.Conv_bind hq ?_)))
      cases decide (a.map (dotL (subL a b)) = b) with
      | false => exact M.Conv_ite (fun _ => M.Conv_ret _) (fun t => by simp at t)
      | true => exact M.Conv_ite (fun t => by simp at t) (fun _ => M.Conv_bind hc1 (M.Conv_ret _))
    · refine M.TC_bindC h2 (M.TC_ite (fun t => by simp at t) (fun _ => M.TC_bindC (impl_timesVector_ok hm hl) ?_))
      have hbl := hr.len
      dsimp only
      refine M.TC_bind (Mid := fun (r : Int ⊕ (Int × Int)) => match r with | .inl s => 0 ≤ s | .inr r => 0 ≤ r.1) (M.TC_for (fun _ (s : Int) => 0 ≤ s) 0 (by omega) (by omega) (by omega) (fun i s h1 h2 hI => ?_) (fun i s _ hI => hI)) fun r hr => ?_
      · refine M.TC_bind (Mid := fun _ => True) (M.TC_idx h1 h2 fun _ _ => trivial) fun y _ => M.TC_bind (Mid := fun _ => True) (M.TC_idx h1 (by omega) fun _ _ => trivial) fun z _ => ?_
        refine M.TC_ite (fun _ => M.TC_ret (.inl ⟨_, rfl, hI⟩)) (fun _ => M.TC_ite (fun _ => M.TC_ret (.inr ⟨_, rfl, Int.le_refl _⟩)) (fun _ => ?_))
        refine M.TC_bind (Mid := fun _ => True) (M.TC_idx h1 (by omega) fun _ _ => trivial) fun u _ => M.TC_ret (.inl ⟨_, rfl, ?_⟩)
        rw [mx_eq]; omega
      · cases r with
        | inl s =>
          refine M.TC_bindC (impl_checkedValue_ok _) (M.TC_ret ?_)
          cases valB s
          · exact Int.le_refl _
          · exact hr
        | inr r => exact M.TC_ret hr
theorem big_ok (code : List Int) : M.Conv (laws_big code) (decide (4096 < (code.length : Int))) := M.Conv_ret _
theorem ByC.of {code : List Int} (h : fitL inU8 code) (hb : decide (4096 < (code.length : Int)) = false) : ByC code := ⟨by have := of_decide_eq_false hb; omega, fun x hx => h.2 x hx⟩
theorem cmp_list {l : List Int} {c : Int} (h : l.length ≤ 1099511627776) (q : Bool) (hq : q = false) : M.Conv (M.ite (q || (c != c)) (M.ret true) (M.bind (laws_likeInts l l) (fun x12 => M.ret (!x12)))) false := by
  subst hq
  exact M.Conv_ite (fun t => by simp at t) (fun _ => M.Conv_bind (likeInts_refl h) (M.Conv_ret _))
theorem cmp_list0 {l : List Int} {c : Int} (h : l.length ≤ 1099511627776) : M.Conv (M.ite (c != c) (M.ret true) (M.bind (laws_likeInts l l) (fun x12 => M.ret (!x12)))) false :=
  M.Conv_ite (fun t => by simp at t) (fun _ => M.Conv_bind (likeInts_refl h) (M.Conv_ret _))
theorem chkV_zero {x : List Int} (h : (chkV x).2 = 0) : x.all valB = true ∧ (chkV x).1 = x := by
  unfold chkV at h ⊢
  cases hv : x.all valB with
  | true => exact ⟨rfl, rfl⟩
  | false => rw [hv] at h; simp at h
def chk5 (s j : Nat) : Bool := (bitN s j == 0) || (List.range 10).all fun i => (i == j) || (bitN (s - 2 ^ j) i == bitN s i)
theorem chk5_all : ((List.range 1024).all fun s => (List.range 10).all fun j => chk5 s j) = true := by decide +kernel
theorem bit_clear {s i j : Nat} (hs : s < 1024) (hi : i < 10) (hj : j < 10) (h1 : bitN s j = 1) (hne : i ≠ j) : bitN (s - 2 ^ j) i = bitN s i := by
  have h := chk5_all
  rw [List.all_eq_true] at h
  have h := h s (List.mem_range.2 hs)
  rw [List.all_eq_true] at h
  have h := h j (List.mem_range.2 hj)
  simp only [chk5, h1, Bool.or_eq_true, beq_iff_eq, List.all_eq_true, List.mem_range] at h
  rcases h with h | h
  · omega
  · rcases h i hi with h | h
    · exact absurd h hne
    · exact h
theorem mem_bits {s : Nat} {v : Int} : ∀ m, v ∈ bitsL s m ↔ ∃ j : Nat, j < m ∧ v = (j : Int) ∧ bitN s j = 1
  | 0 => by simp [bitsL]
  | m + 1 => by
    unfold bitsL
    have ih := mem_bits (s := s) (v := v) m
    cases hb : (bitN s m == 1) with
    | true =>
      have hb : bitN s m = 1 := by simpa using hb
      simp only [cond_true, List.mem_append, List.mem_singleton, ih]
      constructor
      · rintro (⟨j, h1, h2, h3⟩ | h)
        · exact ⟨j, by omega, h2, h3⟩
        · exact ⟨m, by omega, h, hb⟩
      · rintro ⟨j, h1, h2, h3⟩
        by_cases e : j = m
        · right; rw [h2, e]
        · exact .inl ⟨j, by omega, h2, h3⟩
    | false =>
      have hb : bitN s m ≠ 1 := by simpa using hb
      simp only [cond_false, ih]
      constructor
      · rintro ⟨j, h1, h2, h3⟩; exact ⟨j, by omega, h2, h3⟩
      · rintro ⟨j, h1, h2, h3⟩
        by_cases e : j = m
        · subst e; exact absurd h3 hb
        · exact ⟨j, by omega, h2, h3⟩
theorem bits_pop {s : Nat} : ∀ m, (bitsL s m).length = popTo s m
  | 0 => rfl
  | m + 1 => by
    rw [popTo_succ, ← bits_pop m, bitsL]
    have := bitN_le s m
    cases hb : (bitN s m == 1) with
    | true => have hb : bitN s m = 1 := by simpa using hb
              simp [hb]
    | false => have hb : bitN s m ≠ 1 := by simpa using hb
               simp only [cond_false]; omega
theorem leastCover_ok {a : List (List Int)} {b x : List Int} {w : Nat} (hm : Mat a w) (hbl : b.length = a.length) (hxl : x.length = w) :
    M.TC (impl_leastCover a b x) (fun L => (∃ k, k < 2 ^ x.length ∧ covV a b x (bitsL k x.length) = true) → ∃ k0, k0 < 2 ^ x.length ∧ L = bitsL k0 x.length ∧ covV a b x L = true ∧ ∀ k, k < 2 ^ x.length → covV a b x (bitsL k x.length) = true → L.length ≤ (bitsL k x.length).length) := by
  have hcl := hm.cols
  obtain ⟨hshU, hsh, hN, hN1, hwr⟩ := pow_ok (n := x.length) (by omega)
  unfold impl_leastCover
  rw [hsh]
  have hok : ∀ s, OkNodes w (bitsL s x.length) := fun s => by rw [hxl]; exact bitsL_ok s _
  refine M.TC_bind (M.TC_guard (Post := fun _ => True) (by simp) trivial) fun _ _ => ?_
  refine M.TC_bind (Mid := fun (s : List Int × Bool) => s.1.length ≤ 10 ∧ (s.2 = true → ∃ k0, k0 < 2 ^ x.length ∧ s.1 = bitsL k0 x.length ∧ covV a b x s.1 = true ∧ ∀ k, k < 2 ^ x.length → covV a b x (bitsL k x.length) = true → s.1.length ≤ (bitsL k x.length).length) ∧ (s.2 = false → ∀ k, k < 2 ^ x.length → covV a b x (bitsL k x.length) = false)) ?_ fun s hs => M.TC_ret fun ⟨k, hk, hc⟩ => ?_
  · refine M.TC_for (fun i (s : List Int × Bool) => s.1.length ≤ 10 ∧ (s.2 = true → ∃ k0, k0 < 2 ^ x.length ∧ s.1 = bitsL k0 x.length ∧ covV a b x s.1 = true ∧ ∀ k : Nat, (k : Int) < i → covV a b x (bitsL k x.length) = true → s.1.length ≤ (bitsL k x.length).length) ∧ (s.2 = false → ∀ k : Nat, (k : Int) < i → covV a b x (bitsL k x.length) = false)) _ (by omega) (by omega) ⟨by simp, fun h => by simp at h, fun _ k h => by omega⟩ (fun i s hi0 hi hI => ?_) (fun i s hi hI => ?_)
    · obtain ⟨k, rfl⟩ : ∃ k : Nat, i = (k : Int) := ⟨i.toNat, by omega⟩
      have hk : k < 2 ^ x.length := by omega
      obtain ⟨hI1, hI2, hI3⟩ := hI
      have hbk := bitsL_len k x.length
      have hnodes : M.Conv (M.forI 0 (x.length : Int) (fun s => s) (fun i2 => (fun (s3 : (List Int)) => M.bind (M.guard (decide (0 ≤ i2))) (fun _ => M.bind (M.ite ((ibit .and .i64 (ishr .i64 (k : Int) i2) 1) == 1) (M.bind (M.app s3 ([i2] : List Int)) (fun l1 => M.ret l1)) (M.ret s3)) (fun (s4 : (List Int)) => M.ret (.inl s4))))) []) (bitsL k x.length) :=
        bitsU (s := k) (by omega) (by omega) fun i t hi ht => by
          have hb := bit_ok (s := k) (j := i) (by omega) (by omega)
          refine M.Conv_bind (M.Conv_guard (by simp)) (M.Conv_bind (x := bif bitN k i == 1 then t ++ [(i : Int)] else t) ?_ (M.Conv_ret _))
          rw [hb.and]
          refine M.Conv_ite (fun q => M.Conv_bind (M.Conv_app (by simp; omega)) ((M.Conv_ret _).of ?_)) (fun q => (M.Conv_ret _).of ?_)
          · rw [show (bitN k i == 1) = true by simp at q ⊢; omega]; rfl
          · rw [show (bitN k i == 1) = false by simp at q ⊢; omega]; rfl
      have keep : covV a b x (bitsL k x.length) = false ∨ (s.2 = true ∧ s.1.length ≤ (bitsL k x.length).length) → (s.1.length ≤ 10 ∧ (s.2 = true → ∃ k0, k0 < 2 ^ x.length ∧ s.1 = bitsL k0 x.length ∧ covV a b x s.1 = true ∧ ∀ k' : Nat, (k' : Int) < (k : Int) + 1 → covV a b x (bitsL k' x.length) = true → s.1.length ≤ (bitsL k' x.length).length) ∧ (s.2 = false → ∀ k' : Nat, (k' : Int) < (k : Int) + 1 → covV a b x (bitsL k' x.length) = false)) := by
        intro hor
        refine ⟨hI1, fun h => ?_, fun h k' hk' => ?_⟩
        · obtain ⟨k0, g1, g2, g3, g4⟩ := hI2 h
          refine ⟨k0, g1, g2, g3, fun k' hk' hc => ?_⟩
          by_cases e : k' = k
          · subst e
            rcases hor with hor | hor
            · rw [hor] at hc; cases hc
            · exact hor.2
          · exact g4 k' (by omega) hc
        · by_cases e : k' = k
          · subst e
            rcases hor with hor | hor
            · exact hor
            · rw [h] at hor; cases hor.1
          · exact hI3 h k' (by omega)
      refine M.TC_bind (Mid := fun (s' : List Int × Bool) => (s' = s ∧ (covV a b x (bitsL k x.length) = false ∨ (s.2 = true ∧ s.1.length ≤ (bitsL k x.length).length))) ∨ (s' = (bitsL k x.length, true) ∧ covV a b x (bitsL k x.length) = true ∧ (s.2 = true → (bitsL k x.length).length ≤ s.1.length))) ?_ fun s' hs' => M.TC_ret (.inl ⟨_, rfl, ?_⟩)
      · refine M.TC_bindC hnodes (M.TC_bindC (cov_val hm hbl hxl (hok k)).2 (M.TC_ite (fun t => M.TC_ret (.inl ⟨rfl, .inl (by simpa using t)⟩)) (fun t => ?_)))
        have t : covV a b x (bitsL k x.length) = true := by simpa using t
        refine M.TC_bind (Mid := fun v => (v = true → s.2 = true → (bitsL k x.length).length ≤ s.1.length) ∧ (v = false → s.2 = true ∧ s.1.length ≤ (bitsL k x.length).length)) (M.TC_ite (fun q => M.TC_ret ⟨fun _ h2 => ?_, fun h => by cases h⟩) (fun q => ?_)) fun v hv => M.TC_ite (fun q => M.TC_ret (.inr ⟨rfl, t, hv.1 q⟩)) (fun q => M.TC_ret (.inl ⟨rfl, .inr (hv.2 q)⟩))
        · rw [h2] at q; simp at q; omega
        · simp only [Bool.or_eq_false_iff, Bool.not_eq_false', decide_eq_false_iff_not] at q
          refine M.TC_bind (Mid := fun v => (v = true → (bitsL k x.length).length = s.1.length)) (M.TC_ite (fun e => ?_) (fun _ => M.TC_ret (fun h => by cases h))) fun v hv => M.TC_ret ⟨fun h _ => by have := hv h; omega, fun _ => ⟨q.1, by omega⟩⟩
          have e : (bitsL k x.length).length = s.1.length := by simp at e; omega
          obtain ⟨v, _, hv⟩ := less_ok e (by omega)
          exact hv.tc (fun _ => e)
      · rcases hs' with ⟨e, h⟩ | ⟨e, h1, h2⟩
        · rw [e]; exact keep h
        · rw [e]
          refine ⟨by simp only; omega, fun _ => ⟨k, hk, rfl, h1, fun k' hk' hc => ?_⟩, fun h => by cases h⟩
          by_cases e' : k' = k
          · subst e'; exact Nat.le_refl _
          · cases hs2 : s.2 with
            | false => rw [hI3 hs2 k' (by omega)] at hc; cases hc
            | true =>
              obtain ⟨k0, g1, g2, g3, g4⟩ := hI2 hs2
              exact Nat.le_trans (h2 hs2) (g4 k' (by omega) hc)
    · obtain ⟨hI1, hI2, hI3⟩ := hI
      have hi' : i = ((2 ^ x.length : Nat) : Int) := by omega
      refine ⟨hI1, fun h => ?_, fun h k hk => hI3 h k (by omega)⟩
      obtain ⟨k0, g1, g2, g3, g4⟩ := hI2 h
      exact ⟨k0, g1, g2, g3, fun k hk => g4 k (by omega)⟩
  · cases h2 : s.2 with
    | true => exact hs.2.1 h2
    | false => rw [hs.2.2 h2 k hk] at hc; cases hc

theorem dot_in (x row : List Int) : dotL x row = -1000000000000000 ∨ ∃ j, j < row.length ∧ dotL x row = timesI (nd row j) (nd x j) := by
  unfold dotL
  refine foldI_at (g := fun j v s => mx s (timesI v ((x[j]?).getD 0))) (a := row) (fun _ s => s = -1000000000000000 ∨ ∃ j, j < row.length ∧ s = timesI (nd row j) (nd x j)) row 0 (-1000000000000000) (fun k => by simp) (.inl rfl) (fun j v s hv hs => ?_)
  have hj := (List.getElem?_eq_some_iff.1 hv).1
  have he : nd row j = v := by unfold nd; rw [hv]; rfl
  by_cases hlt : timesI v (nd x j) > s
  · exact .inr ⟨j, hj, (if_pos hlt).trans (by rw [he]; rfl)⟩
  · rw [show mx s (timesI v ((x[j]?).getD 0)) = s from if_neg hlt]; exact hs
def hitC (a : List (List Int)) (b x : List Int) (i : Nat) (j : Int) : Bool := (entA a i j.toNat != (-1000000000000000)) && ((nd x j.toNat != (-1000000000000000)) && (entA a i j.toNat + nd x j.toNat == nd b i))
def lessC (a : List (List Int)) (b x L : List Int) (s : Int) (i : Nat) : Bool := (nd b i == (-1000000000000000)) || (List.range L.length).any fun q => decide ((q : Int) ≠ s) && hitC a b x i (nd L q)
theorem hit_iff {a : List (List Int)} {b x : List Int} {w : Nat} (hm : Mat a w) (hp : ∀ j, j < w → ColP a b j (nd x j)) {i : Nat} (hi : i < a.length) {j : Int} (h0 : 0 ≤ j) (hj : j < w) (hb : nd b i ≠ -1000000000000000) : hitC a b x i j = hitB a b x i j := by
  have h1 := val_ent hm hi (j := j.toNat) (by omega)
  have h2 := (hp j.toNat (by omega)).band
  obtain ⟨t1, t2⟩ := timesI_val h1 (w := nd x j.toNat) (by rcases h2 with h | h; exact .inl h; exact .inr ⟨by omega, by omega⟩)
  unfold hitC hitB
  rw [t1]
  cases hz : ((entA a i j.toNat == (-1000000000000000)) || (nd x j.toNat == (-1000000000000000))) with
  | true =>
    simp only [cond_true]
    rw [show ((-1000000000000000 : Int) == nd b i) = false by simp; omega]
    simp only [Bool.or_eq_true, beq_iff_eq] at hz
    rcases hz with hz | hz
    · rw [hz]; simp
    · rw [hz]; simp
  | false =>
    simp only [Bool.or_eq_false_iff] at hz
    simp only [cond_false, bne, hz.1, hz.2, Bool.not_false, Bool.true_and]
theorem any_range {L : List Int} {p : Int → Bool} : ((List.range L.length).any fun q => p (nd L q)) = L.any p := by
  rw [Bool.eq_iff_iff, List.any_eq_true, List.any_eq_true]
  constructor
  · rintro ⟨q, hq, hp⟩
    have hq := List.mem_range.1 hq
    have : L[q]? = some L[q] := List.getElem?_eq_getElem hq
    have e : nd L q = L[q] := by unfold nd; rw [this]; rfl
    exact ⟨_, List.getElem_mem hq, by rw [← e]; exact hp⟩
  · rintro ⟨v, hv, hp⟩
    obtain ⟨q, hq, e⟩ := List.getElem_of_mem hv
    refine ⟨q, List.mem_range.2 hq, ?_⟩
    have : L[q]? = some L[q] := List.getElem?_eq_getElem hq
    have e' : nd L q = L[q] := by unfold nd; rw [this]; rfl
    rw [e', e]; exact hp
theorem nodes_mono {n : Nat} {L : List Int} (h : OkNodes n L) : ∀ p q, p < q → q < L.length → nd L p < nd L q := by
  intro p q
  induction q with
  | zero => intro h; omega
  | succ q ih =>
    intro h1 h2
    have := (h (q + 1) h2).2 (by omega)
    rw [Nat.add_sub_cancel] at this
    by_cases e : p = q
    · subst e; exact this
    · have := ih (by omega) (by omega); omega
theorem nodes_inj {n : Nat} {L : List Int} (h : OkNodes n L) {p q : Nat} (hp : p < L.length) (hq : q < L.length) (hne : p ≠ q) : nd L p ≠ nd L q := by
  rcases Nat.lt_or_gt_of_ne hne with h' | h'
  · have := nodes_mono h p q h' hq; omega
  · have := nodes_mono h q p h' hp; omega
/-- what the least cover is: covering, and not without any one of its columns -/
theorem cover_tight {a : List (List Int)} {b L : List Int} (hr : Resid a b) (hp : ∀ j, j < widthN a → ColP a b j (nd (subL a b) j)) (hAx : a.map (dotL (subL a b)) = b) (hL : M.Conv (impl_leastCover a b (subL a b)) L) :
    OkNodes (widthN a) L ∧ ∀ s : Int, -1 ≤ s → s < L.length → (List.range b.length).all (lessC a b (subL a b) L s) = decide (s < 0) := by
  have hm := hr.mat
  have hcl := hm.cols
  have hbl := hr.len
  have hxl := subL_len a b
  generalize hx : subL a b = x at *
  obtain ⟨L', hL', hmin⟩ := leastCover_ok (a := a) (b := b) (x := x) hm hbl hxl
  obtain rfl := hL.unique hL'
  obtain ⟨_, _, hN, hN1, _⟩ := pow_ok (n := x.length) (by omega)
  have hfull : ∃ k, k < 2 ^ x.length ∧ covV a b x (bitsL k x.length) = true := by
    refine ⟨2 ^ x.length - 1, by omega, ?_⟩
    unfold covV
    rw [List.all_eq_true]
    intro i hi
    have hi := List.mem_range.1 hi
    unfold covB
    rw [Bool.or_eq_true]
    by_cases hb : nd b i = -1000000000000000
    · left; simpa using hb
    · right
      obtain ⟨row, hrow⟩ : ∃ row, a[i]? = some row := ⟨a[i]'(by omega), List.getElem?_eq_getElem _⟩
      have hrl := (hm.row _ (List.mem_of_getElem? hrow)).1
      have e : nd b i = dotL x row := by
        have h := congrArg (fun l => nd l i) hAx
        unfold nd at h ⊢
        simp only [List.getElem?_map, hrow] at h
        exact h.symm
      rcases dot_in x row with h | ⟨j, hj, h⟩
      · exact absurd (e.trans h) hb
      · rw [List.any_eq_true]
        have hc := (compl_ok (n := x.length) (s := 0) (by omega) (by omega)).2 j (by omega)
        rw [Nat.sub_zero, show bitN 0 j = 0 by simp [bitN], Nat.add_zero] at hc
        refine ⟨(j : Int), (mem_bits _).2 ⟨j, by omega, rfl, hc⟩, ?_⟩
        unfold hitB
        rw [Int.toNat_natCast, ent_at hrow, beq_iff_eq, e, h]; rfl
  obtain ⟨k0, hk0, rfl, hcov, hmin⟩ := hmin hfull
  have hok : OkNodes (widthN a) (bitsL k0 x.length) := by rw [← hxl]; exact bitsL_ok _ _
  refine ⟨hok, fun s hs1 hs2 => ?_⟩
  have hnode : ∀ q, q < (bitsL k0 x.length).length → ∃ j : Nat, j < x.length ∧ nd (bitsL k0 x.length) q = (j : Int) ∧ bitN k0 j = 1 := by
    intro q hq
    have : (bitsL k0 x.length)[q]? = some (bitsL k0 x.length)[q] := List.getElem?_eq_getElem hq
    have e : nd (bitsL k0 x.length) q = (bitsL k0 x.length)[q] := by unfold nd; rw [this]; rfl
    rw [e]
    exact (mem_bits _).1 (List.getElem_mem hq)
  by_cases hneg : s < 0
  · rw [decide_eq_true hneg, List.all_eq_true]
    intro i hi
    have hi' := List.mem_range.1 hi
    unfold covV at hcov
    rw [List.all_eq_true] at hcov
    have := hcov i hi
    unfold covB at this
    unfold lessC
    rw [Bool.or_eq_true] at this ⊢
    by_cases hb : nd b i = -1000000000000000
    · left; simpa using hb
    · right
      rcases this with h | h
      · exact absurd (by simpa using h) hb
      · rw [← any_range (p := hitB a b x i)] at h
        rw [List.any_eq_true] at h ⊢
        obtain ⟨q, hq, h⟩ := h
        obtain ⟨j, j1, j2, j3⟩ := hnode q (List.mem_range.1 hq)
        refine ⟨q, hq, ?_⟩
        rw [decide_eq_true (by omega), Bool.true_and, hit_iff hm hp (by omega) (by omega) (by omega) hb]
        exact h
  · rw [decide_eq_false hneg]
    cases hall : (List.range b.length).all (lessC a b x (bitsL k0 x.length) s) with
    | false => rfl
    | true =>
      exfalso
      rw [List.all_eq_true] at hall
      obtain ⟨p, rfl⟩ : ∃ p : Nat, s = (p : Int) := ⟨s.toNat, by omega⟩
      have hp' : p < (bitsL k0 x.length).length := by omega
      obtain ⟨j0, a1, a2, a3⟩ := hnode p hp'
      have hb1 := (bit_ok (s := k0) (j := j0) (by omega) (by omega)).one a3
      have hlt : k0 - 2 ^ j0 < 2 ^ x.length := Nat.lt_of_le_of_lt (Nat.sub_le _ _) hk0
      have hlen : (bitsL (k0 - 2 ^ j0) x.length).length + 1 = (bitsL k0 x.length).length := by
        rw [bits_pop, bits_pop, popTo_n hk0 (by omega), popTo_n hlt (by omega)]
        exact hb1.2.1
      have := hmin (k0 - 2 ^ j0) hlt (by
        unfold covV
        rw [List.all_eq_true]
        intro i hi
        have hi' := List.mem_range.1 hi
        have h := hall i hi
        unfold lessC at h
        unfold covB
        rw [Bool.or_eq_true] at h ⊢
        by_cases hb : nd b i = -1000000000000000
        · left; simpa using hb
        · right
          rcases h with h | h
          · exact absurd (by simpa using h) hb
          · rw [List.any_eq_true] at h ⊢
            obtain ⟨q, hq, h⟩ := h
            rw [Bool.and_eq_true, decide_eq_true_eq] at h
            obtain ⟨j, j1, j2, j3⟩ := hnode q (List.mem_range.1 hq)
            have hne : j ≠ j0 := fun e => nodes_inj hok (List.mem_range.1 hq) hp' (by omega) (by rw [j2, a2, e])
            refine ⟨(j : Int), (mem_bits _).2 ⟨j, j1, rfl, ?_⟩, ?_⟩
            · rw [bit_clear (by omega) (by omega) (by omega) a3 hne]; exact j3
            · rw [← hit_iff hm hp (by omega) (by omega) (by omega) hb, ← j2]; exact h.2)
      omega
theorem impl_LeastCover_ok {a : List (List Int)} {b : List Int} (sa : smII a) (sb : smI b) {w : List Int × Int} (h : M.Conv (impl_LeastCover a b) w) (h0 : w.2 = 0) :
    Resid a b ∧ (∀ j, j < widthN a → ColP a b j (nd (subL a b) j)) ∧ a.map (dotL (subL a b)) = b ∧ M.Conv (impl_leastCover a b (subL a b)) w.1 ∧ M.Conv (impl_GreatestSub a b) (chkV (subL a b)) := by
  rcases sub_cases sa sb with ⟨c, hc, h1, _⟩ | ⟨hr, hp, h1, h2, _⟩
  · have := h.unique (M.Conv_bind h1 (M.Conv_ite (fun _ => M.Conv_ret _) (fun t => by rw [ne0 hc] at t; cases t)))
    rw [this] at h0; exact absurd h0 hc
  · have hm := hr.mat
    have hrw := hm.rows
    have hl := subL_len a b
    have hml : (a.map (dotL (subL a b))).length = a.length := List.length_map _
    have hq := slices_Equal_int_ok (a := a.map (dotL (subL a b))) (b := b) (by omega)
    by_cases e : a.map (dotL (subL a b)) = b
    · rw [decide_eq_true e] at hq
      obtain ⟨L, hL, _⟩ := leastCover_ok (a := a) (b := b) (x := subL a b) hm hr.len hl
      have := h.unique (M.Conv_bind h1 (M.Conv_ite (fun t => by simp at t) (fun _ => M.Conv_bind (impl_timesVector_ok hm hl) (M.Conv_bind hq (M.Conv_ite (fun t => by simp at t) (fun _ => M.Conv_bind hL (M.Conv_ret _)))))))
      rw [this]
      exact ⟨hr, hp, e, hL, h2⟩
    · rw [decide_eq_false e] at hq
      have := h.unique (M.Conv_bind h1 (M.Conv_ite (fun t => by simp at t) (fun _ => M.Conv_bind (impl_timesVector_ok hm hl) (M.Conv_bind hq (M.Conv_ite (fun _ => M.Conv_ret _) (fun t => by simp at t))))))
      rw [this] at h0; simp at h0
theorem foldA {β : Type} {n : Nat} {f : Int → Bool → M (Bool ⊕ Bool)} (p : Nat → Bool) (s0 : Bool) (hn : n ≤ 9223372036854775807) (or_ : Bool) (h : ∀ (i : Nat) (s : Bool), i < n → M.Conv (f i s) (.inl (bif or_ then s || p i else s && p i))) :
    M.Conv (M.forI 0 (n : Int) (fun s => s) f s0) (bif or_ then s0 || (List.range n).any p else s0 && (List.range n).all p) := by
  have H := Conv_forV (f := f) (fun k => bif or_ then s0 || (List.range k).any p else s0 && (List.range k).all p) hn fun i hi => by
    refine (h i _ hi).of ?_
    cases or_ <;> simp [List.range_succ, Bool.or_assoc, Bool.and_assoc]
  have e0 : (bif or_ then s0 || (List.range 0).any p else s0 && (List.range 0).all p) = s0 := by cases or_ <;> simp
  simp only [e0] at H
  exact H
theorem sys_tail {a : List (List Int)} {b : List Int} (sa : smII a) (sb : smI b) {w : List Int × Int} (h : M.Conv (impl_LeastCover a b) w) (hwl : w.1.length ≤ 1099511627776) :
    M.Conv (M.ite (w.2 != 0) (M.ret true) (M.bind (impl_GreatestSub a b) (fun x16 => M.bind (M.loop (fun (s1 : Int) => M.ite ((x16.2 == 0) && (decide (s1 < (w.1.length : Int)))) (M.bind (M.forI 0 (b.length : Int) (fun s => s) (fun i1 => (fun (s3 : Bool) => M.bind (M.idx b i1) (fun x20 => M.bind (M.forI 0 (w.1.length : Int) (fun s => s) (fun i2 => (fun (s4 : Bool) => M.bind (M.idx w.1 i2) (fun x22 => M.bind (M.ite s4 (M.ret true) (M.bind (M.ite (i2 != s1) (M.bind (M.idx a i1) (fun x25 => M.bind (M.idx x25 x22) (fun x26 => M.ret (x26 != (-1000000000000000))))) (M.ret false)) (fun x24 => M.bind (M.ite x24 (M.bind (M.idx x16.1 x22) (fun x28 => M.ret (x28 != (-1000000000000000)))) (M.ret false)) (fun x27 => M.bind (M.ite x27 (M.bind (M.idx a i1) (fun x30 => M.bind (M.idx x30 x22) (fun x31 => M.bind (M.idx x16.1 x22) (fun x32 => M.bind (M.idx b i1) (fun x33 => M.ret ((w64 (x31 + x32)) == x33)))))) (M.ret false)) (fun x29 => M.ret x29))))) (fun x23 => M.ret (.inl x23))))) (x20 == (-1000000000000000))) (fun x21 => M.ret (.inl (s3 && x21)))))) true) (fun x19 => M.ite (!(x19 == (decide (s1 < 0)))) (M.ret (.inr (.inr false))) (M.ret (.inl (w64 (s1 + 1)))))) (M.ret (.inr (.inl s1)))) (-1)) (fun x17 => M.cont x17 (fun _ => M.ret true) (fun r => M.ret r)))) : M Bool) true := by
  refine M.Conv_ite (fun _ => M.Conv_ret _) (fun t => ?_)
  have h0 : w.2 = 0 := by simpa using t
  obtain ⟨hr, hp, hAx, hL, hG⟩ := impl_LeastCover_ok sa sb h h0
  obtain ⟨hok, htight⟩ := cover_tight hr hp hAx hL
  have hm := hr.mat
  have hcl := hm.cols
  have hrw := hm.rows
  have hbl := hr.len
  have hxl := subL_len a b
  have hLl := hok.len
  refine M.Conv_bind hG ?_
  cases hc : ((chkV (subL a b)).2 == 0) with
  | false =>
    refine M.Conv_bind (x := (Sum.inl (-1) : Int ⊕ Bool)) ?_ (by exact M.Conv_ret true)
    exact (ConvL.stop (M.Conv_ite (fun t => by simp at t) (fun _ => M.Conv_ret _))).conv
  | true =>
    have e1 := (chkV_zero (x := subL a b) (by simpa using hc)).2
    rw [e1]
    refine M.Conv_bind (x := (Sum.inl (w.1.length : Int) : Int ⊕ Bool)) ?_ (by exact M.Conv_ret true)
    refine conv_up0 (fun k => (k : Int) - 1) (n := w.1.length + 1) (k0 := 0) (by simp) (by omega) (fun k _ hk => ?_) ?_
    · refine M.Conv_ite (fun _ => ?_) (fun t => by simp at t; omega)
      have ht := htight ((k : Int) - 1) (by omega) (by omega)
      refine M.Conv_bind (x := decide ((k : Int) - 1 < 0)) ?_ (M.Conv_ite (fun t => by simp at t) (fun _ => (M.Conv_ret _).of (by rw [w64_eq _ (by omega)]; congr 1; omega)))
      rw [← ht]
      refine (foldA (β := Unit) (lessC a b (subL a b) w.1 ((k : Int) - 1)) true (by omega) false (fun i s hi => ?_)).of (by simp)
      refine M.Conv_bind (nd_read hi) ?_
      refine M.Conv_bind (x := lessC a b (subL a b) w.1 ((k : Int) - 1) i) ?_ (M.Conv_ret _)
      refine (foldA (β := Unit) (fun q => decide ((q : Int) ≠ (k : Int) - 1) && hitC a b (subL a b) i (nd w.1 q)) _ (by omega) true (fun q s hq => ?_)).of (by simp [lessC])
      have hn := (hok q hq).1
      obtain ⟨r, c1, _, c2⟩ := ent_read hm.shp (i := i) (j := (nd w.1 q).toNat) (by omega) (by omega)
      rw [Int.toNat_of_nonneg hn.1] at c2
      have cx := nd_read (l := subL a b) (i := (nd w.1 q).toNat) (by omega)
      rw [Int.toNat_of_nonneg hn.1] at cx
      have hve := val_ent hm (i := i) (j := (nd w.1 q).toNat) (by omega) (by omega)
      have hxb := (hp (nd w.1 q).toNat (by omega)).band
      refine M.Conv_bind (nd_read hq) (M.Conv_bind (Conv_or (v := decide ((q : Int) ≠ (k : Int) - 1) && hitC a b (subL a b) i (nd w.1 q)) fun _ => ?_) (M.Conv_ret _))
      unfold hitC
      generalize hX : nd (subL a b) (nd w.1 q).toNat = X at cx hxb
      generalize hV : entA a i (nd w.1 q).toNat = V at c2 hve
      refine M.Conv_bind (x := decide ((q : Int) ≠ (k : Int) - 1) && (V != (-1000000000000000))) (M.Conv_ite (fun t => M.Conv_bind c1 (M.Conv_bind c2 ((M.Conv_ret _).of ?_))) (fun t => (M.Conv_ret _).of ?_)) ?_
      · rw [decide_eq_true (by simpa using t), Bool.true_and]
      · rw [decide_eq_false (by simpa using t), Bool.false_and]
      refine M.Conv_bind (x := (decide ((q : Int) ≠ (k : Int) - 1) && (V != (-1000000000000000))) && (X != (-1000000000000000))) (M.Conv_ite (fun t => M.Conv_bind cx ((M.Conv_ret _).of ?_)) (fun t => (M.Conv_ret _).of ?_)) ?_
      · rw [t, Bool.true_and]
      · rw [t, Bool.false_and]
      refine M.Conv_bind (x := ((decide ((q : Int) ≠ (k : Int) - 1) && (V != (-1000000000000000))) && (X != (-1000000000000000))) && (V + X == nd b i)) (M.Conv_ite (fun t => M.Conv_bind c1 (M.Conv_bind c2 (M.Conv_bind cx (M.Conv_bind (nd_read hi) ((M.Conv_ret _).of ?_))))) (fun t => (M.Conv_ret _).of ?_)) ((M.Conv_ret _).of (by simp [Bool.and_assoc]))
      · rw [t, Bool.true_and]
        simp only [Bool.and_eq_true, bne_iff_ne, ne_eq] at t
        rw [w64_eq _ (by rcases hxb with h | h <;> omega)]
      · rw [t, Bool.false_and]
    · refine M.Conv_ite (fun t => by simp at t) (fun _ => (M.Conv_ret _).of (congrArg (fun z : Int => (Sum.inr (Sum.inl z) : Int ⊕ (Int ⊕ Bool))) (by omega)))
theorem FnSystems_ok (code : List Int) (h : fitL inU8 code) : M.Conv (laws_FnSystems code) true := by
  apply M.TC.conv
  unfold laws_FnSystems
  refine M.TC_bindC (big_ok code) (M.TC_ite (fun _ => M.TC_ret rfl) (fun hb => ?_))
  have hc := ByC.of h hb
  refine M.TC_bind (DrawSolveSystem_ok hc) fun r hr => ?_
  obtain ⟨a, b⟩ := r
  obtain ⟨ha, hbv⟩ := hr
  obtain ⟨r5, k5, hr5⟩ := DrawLeastCover_ok hc
  obtain ⟨a5, b5⟩ := r5
  obtain ⟨ha5, hbv5⟩ := hr5
  simp only at ha hbv ha5 hbv5 ⊢
  have sa := ha.sm
  have sb := hbv.sm
  obtain ⟨w1, p1, q1, s1⟩ := same_SolveSystem a ha.fit b hbv.fit sa sb
  obtain ⟨w2, p2, q2, s2⟩ := same_LeastCover a5 ha5.fit b5 hbv5.fit ha5.sm hbv5.sm
  have htail := sys_tail ha5.sm hbv5.sm q2 s2
  refine M.Conv.tc (r := true) (Post := fun r => r = true) ?_ rfl
  refine M.Conv_bind q1 (M.Conv_bind p1 (M.Conv_bind k5 (M.Conv_bind q2 (M.Conv_bind p2 ?_))))
  refine M.Conv_bind (cmp_list0 s1) (M.Conv_bind (cmp_list s2 _ rfl) (M.Conv_ite (fun t => by simp at t) (fun _ => M.Conv_ite (fun t => ?_) (fun _ => htail))))
  have t : w1.2 = 0 := by simpa using t
  have key : M.Conv (impl_TimesVector a w1.1) (b, 0) ∧ b.length ≤ 20 := by
    rcases sub_cases sa sb with ⟨c, hc, _, _, _, h3, _⟩ | ⟨hres, hp, _, h1, h2, h3, _⟩
    · rw [q1.unique h3] at t; exact absurd t hc
    · rw [q1.unique h3] at t ⊢
      by_cases e : a.map (dotL (subL a b)) = b
      · rw [decide_eq_true e] at t ⊢
        simp only [cond_true] at t ⊢
        obtain ⟨v1, v2⟩ := chkV_zero t
        rw [v2]
        refine ⟨(tv_both sa (by unfold smI; rw [subL_len]; have := hres.mat.cols; omega)).2.of ?_, hbv.len⟩
        have hm := hres.mat
        have hmb : matB a = true := by
          have hm2 := hm.shp
          rw [matB_shp hm2, List.all_eq_true]
          intro r hr
          rw [List.all_eq_true]
          exact (hm.row r hr).2
        have hvb : vecB (subL a b) = true := by
          have := hm.cols
          simp only [vecB, subL_len, Bool.and_eq_true, decide_eq_true_eq]
          exact ⟨⟨this.1, this.2⟩, v1⟩
        unfold tvV
        rw [hmb, hvb, decide_eq_true (subL_len a b).symm, e]
        have : b.all valB = true := by rw [List.all_eq_true]; exact hres.vec
        rw [this]; rfl
      · rw [decide_eq_false e] at t; simp at t
  refine M.Conv_bind key.1 (M.Conv_bind (x := false) (M.Conv_ite (fun t => by simp at t) (fun _ => M.Conv_bind (likeInts_refl (a := b) (by have := key.2; omega)) (M.Conv_ret _))) (M.Conv_ite (fun t => by simp at t) (fun _ => htail)))

def co (c : List Int) (i : Nat) : Int := (c[i]?).getD (-1000000000000000)
theorem co_get {c : List Int} {i : Nat} (h : i < c.length) : c[i]? = some (co c i) := by
  unfold co; rw [List.getElem?_eq_getElem h]; rfl
theorem co_out {c : List Int} {i : Nat} (h : c.length ≤ i) : co c i = -1000000000000000 := by
  unfold co; rw [List.getElem?_eq_none h]; rfl
theorem co_val {c : List Int} (hv : c.all valB = true) (i : Nat) : co c i = -1000000000000000 ∨ -1000000 ≤ co c i ∧ co c i ≤ 1000000 := by
  by_cases hi : i < c.length
  · rw [List.all_eq_true] at hv
    exact val_cases (hv _ (List.mem_of_getElem? (co_get hi)))
  · exact .inl (co_out (by omega))
theorem times_co {a p : Int} (h : a ≠ -1000000000000000) (ha : -1000000 ≤ a ∧ a ≤ 1000000) (hp : -1000000 ≤ p ∧ p ≤ 1000000) : timesI a p = a + p := by
  simp only [timesI]
  rw [show (a == (-1000000000000000)) = false by simpa using h, show (p == (-1000000000000000)) = false by simp; omega]
  exact w64_eq _ (by omega)
theorem times_bot (p : Int) : timesI (-1000000000000000) p = -1000000000000000 := by simp [timesI]
structure IsEv (c : List Int) (x v : Int) : Prop where
  up : ∀ i : Nat, co c i ≠ -1000000000000000 → co c i + i * x ≤ v
  on : ∃ i : Nat, co c i ≠ -1000000000000000 ∧ v = co c i + i * x
theorem IsEv.unique {c : List Int} {x v w : Int} (h : IsEv c x v) (g : IsEv c x w) : v = w := by
  obtain ⟨i, h1, h2⟩ := h.on
  obtain ⟨k, g1, g2⟩ := g.on
  have := h.up k g1
  have := g.up i h1
  omega
structure PartP (c d : List Int) (n i k : Nat) (s : List Int) : Prop where
  len : s.length = n
  up : ∀ p q : Nat, (p < i ∨ p = i ∧ q < k) → co c p ≠ -1000000000000000 → co d q ≠ -1000000000000000 → co c p + co d q ≤ co s (p + q)
  on : ∀ m : Nat, co s m = -1000000000000000 ∨ ∃ p q : Nat, p + q = m ∧ co c p ≠ -1000000000000000 ∧ co d q ≠ -1000000000000000 ∧ co s m = co c p + co d q
theorem co_set {s : List Int} {i m : Nat} {v : Int} (hi : i < s.length) : co (s.set i v) m = if m = i then v else co s m := by
  unfold co
  by_cases e : m = i
  · subst e; rw [if_pos rfl, List.getElem?_set_self hi]; rfl
  · rw [if_neg e, List.getElem?_set_ne (by omega)]
theorem PartP.step {c d s : List Int} {n i k : Nat} (hc : c.all valB = true) (hd : d.all valB = true) (h : PartP c d n i k s) (hn : i + k < n) : PartP c d n i (k + 1) (s.set (i + k) (mx (co s (i + k)) (timesI (co c i) (co d k)))) := by
  have hlt : i + k < s.length := by rw [h.len]; exact hn
  have vc := co_val hc i
  have vd := co_val hd k
  have vs : co s (i + k) = -1000000000000000 ∨ -2000000 ≤ co s (i + k) := by
    rcases h.on (i + k) with e | ⟨p, q, _, h1, h2, e⟩
    · exact .inl e
    · have := co_val hc p
      have := co_val hd q
      omega
  -- the new coefficient
  have hz : (mx (co s (i + k)) (timesI (co c i) (co d k)) = co s (i + k) ∧ (co c i = -1000000000000000 ∨ co d k = -1000000000000000 ∨ co c i + co d k ≤ co s (i + k))) ∨ (mx (co s (i + k)) (timesI (co c i) (co d k)) = co c i + co d k ∧ co c i ≠ -1000000000000000 ∧ co d k ≠ -1000000000000000 ∧ co s (i + k) ≤ co c i + co d k) := by
    rw [mx_eq]
    by_cases e1 : co c i = -1000000000000000
    · rw [e1, times_bot]; left; omega
    · by_cases e2 : co d k = -1000000000000000
      · rw [e2, show timesI (co c i) (-1000000000000000) = -1000000000000000 by simp [timesI]]; left; omega
      · rw [times_co e1 (by omega) (by omega)]
        by_cases e3 : co c i + co d k ≤ co s (i + k)
        · left; omega
        · right; omega
  refine ⟨by rw [List.length_set]; exact h.len, fun p q hpq h1 h2 => ?_, fun m => ?_⟩
  · rw [co_set hlt]
    by_cases e : p + q = i + k
    · rw [if_pos e]
      by_cases e2 : p = i ∧ q = k
      · obtain ⟨rfl, rfl⟩ := e2; omega
      · have := h.up p q (by omega) h1 h2
        rw [e] at this
        omega
    · rw [if_neg e]
      exact h.up p q (by omega) h1 h2
  · rw [co_set hlt]
    by_cases e : m = i + k
    · rw [if_pos e]
      rcases hz with ⟨hz, _⟩ | ⟨hz, h1, h2, _⟩
      · rw [hz]
        have := h.on m
        rw [e] at this ⊢
        exact this
      · exact .inr ⟨i, k, e.symm, h1, h2, hz⟩
    · rw [if_neg e]; exact h.on m
end Go.Proofs.Ytmpjjdgfkjompaa
