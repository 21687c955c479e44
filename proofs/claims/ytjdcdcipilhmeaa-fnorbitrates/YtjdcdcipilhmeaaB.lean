/-
  Plain proofs: the plain program of the law ends with true.
  Conditions: None beyond the given statement.
-/
import Derived.Test.YtjdcdcipilhmeaaP
namespace Go.Proofs.Ytjdcdcipilhmeaa
open Go
/-! ### plain programs: loops over a list -/
namespace M
variable {α β σ ρ : Type}
/-- rounds over the elements of a list, each with its place; a round may leave -/
def run (g : Nat → α → σ → σ ⊕ ρ) (fin : σ → ρ) : Nat → List α → σ → ρ
  | _, [], s => fin s
  | i, x :: xs, s => match g i x s with
    | .inl s' => run g fin (i + 1) xs s'
    | .inr r => r
theorem Conv_forN {l : List α} {f : Int → σ → M (σ ⊕ ρ)} (g : Nat → α → σ → σ ⊕ ρ) (fin : σ → ρ) (I : Nat → σ → Prop) (hi : Int) :
    ∀ (xs : List α) (i : Nat) (s : σ), hi = (i + xs.length : Nat) → I i s → (∀ (j : Nat) x s, xs[j]? = some x → I (i + j) s → Conv (f (i + j : Nat) s) (g (i + j) x s) ∧ ∀ s', g (i + j) x s = .inl s' → I (i + j + 1) s') →
      ∃ N, ∀ n, N ≤ n → forN hi fin f n xs.length i s = some (run g fin i xs s)
  | [], i, s, hh, _, _ => ⟨0, fun n _ => by
      have : ¬ (i : Int) < hi := by rw [hh]; simp
      simp [forN, run, this]⟩
  | x :: xs, i, s, hh, h0, H => by
    have hlt : (i : Int) < hi := by rw [hh]; simp; omega
    obtain ⟨⟨N, hN⟩, hI⟩ := H 0 x s rfl h0
    simp only [Nat.add_zero] at hN hI
    cases hg : g i x s with
    | inl s' =>
      have hi' := hI s' hg
      obtain ⟨N', hN'⟩ := Conv_forN (l := l) g fin I hi xs (i + 1) s' (by rw [hh, List.length_cons]; congr 1; omega) hi' (fun j y s hy hIs => by
        have := H (j + 1) y s (by simpa using hy) (by rw [← Nat.add_assoc, Nat.add_right_comm]; exact hIs)
        rw [show i + (j + 1) = i + 1 + j by omega] at this
        exact this)
      refine ⟨max N N', fun n hn => ?_⟩
      have h1 := hN n (by omega)
      rw [hg] at h1
      simp only [List.length_cons, forN, hlt, decide_true, cond_true, h1, run, hg]
      have := hN' n (by omega)
      simpa using this
    | inr r =>
      refine ⟨N, fun n hn => ?_⟩
      have h1 := hN n hn
      rw [hg] at h1
      simp only [List.length_cons, forN, hlt, decide_true, cond_true, h1, run, hg]
/-- a loop over a list, with an invariant -/
theorem Conv_forI {l : List α} {f : Int → σ → M (σ ⊕ ρ)} {fin : σ → ρ} {s : σ} (g : Nat → α → σ → σ ⊕ ρ) (I : Nat → σ → Prop) (hl : l.length ≤ 9223372036854775807) (h0 : I 0 s)
    (H : ∀ (i : Nat) x s, l[i]? = some x → I i s → Conv (f i s) (g i x s) ∧ ∀ s', g i x s = .inl s' → I (i + 1) s') : Conv (forI 0 (l.length : Int) fin f s) (run g fin 0 l s) := by
  obtain ⟨N, hN⟩ := Conv_forN (l := l) (f := f) g fin I (l.length : Int) l 0 s (by simp) h0 (fun j x s hx hI => by simpa using H j x s hx (by simpa using hI))
  refine ⟨N, fun n hn => ?_⟩
  have h1 : (l.length : Int) ≤ 9223372036854775807 := by omega
  simp only [forI, h1, decide_true, Bool.and_true, show (-9223372036854775808 : Int) ≤ 0 by decide, cond_true]
  have := hN n hn
  simpa using this
/-- .. without one -/
theorem Conv_forL {l : List α} {f : Int → σ → M (σ ⊕ ρ)} {fin : σ → ρ} {s : σ} (g : Nat → α → σ → σ ⊕ ρ) (hl : l.length ≤ 9223372036854775807)
    (H : ∀ (i : Nat) x s, l[i]? = some x → Conv (f i s) (g i x s)) : Conv (forI 0 (l.length : Int) fin f s) (run g fin 0 l s) :=
  Conv_forI g (fun _ _ => True) hl trivial fun i x s hx _ => ⟨H i x s hx, fun _ _ => trivial⟩
theorem Conv.of {m : M α} {r r' : α} (h : Conv m r) (e : r = r') : Conv m r' := e ▸ h
theorem Conv_ite {b : Bool} {x y : M α} {r : α} (h1 : b = true → Conv x r) (h2 : b = false → Conv y r) : Conv (ite b x y) r := by
  cases b
  · exact h2 rfl
  · exact h1 rfl
theorem Conv_ite2 {b : Bool} {x y : M α} {r s : α} (h1 : b = true → Conv x r) (h2 : b = false → Conv y s) : Conv (ite b x y) (bif b then r else s) := by
  cases b
  · exact h2 rfl
  · exact h1 rfl
theorem Conv_guard {b : Bool} (h : b = true) : Conv (guard b) () := ⟨0, fun _ _ => by simp [guard, h]⟩
theorem Conv_upd {l : List α} {i : Nat} {x : α} (h : i < l.length) : Conv (upd l i x) (l.set i x) := ⟨0, fun _ _ => by simp [upd, h]⟩
theorem Conv_get {l : List α} {i : Int} {x : α} (h0 : 0 ≤ i) (h : l[i.toNat]? = some x) : Conv (idx l i) x := ⟨0, fun _ _ => by simp [idx, h0, h]⟩
/-- a value told in both ways of a test, then the rest -/
theorem Conv_bite {b : Bool} {x y : M α} {f : α → M β} {u v : α} {r : β} (h1 : b = true → Conv x u) (h2 : b = false → Conv y v) (g : Conv (f (bif b then u else v)) r) : Conv (bind (ite b x y) f) r :=
  Conv_bind (Conv_ite2 h1 h2) g

/-! searches: a loop that leaves at the first element of a kind -/
theorem run_all (p : α → Bool) (u : Unit ⊕ ρ) : ∀ (i : Nat) (l : List α), run (ρ := Unit ⊕ ρ) (fun _ x _ => bif p x then .inl () else .inr u) (fun s => .inl s) i l () = bif l.all p then .inl () else u
  | _, [] => rfl
  | i, x :: xs => by
    simp only [run, List.all_cons]
    cases p x
    · rfl
    · simpa using run_all p u (i + 1) xs
/-- 'for .. if not p x, return v' -/
theorem Conv_all {l : List α} {f : Int → Unit → M (Unit ⊕ (Unit ⊕ ρ))} (p : α → Bool) (v : ρ) (hl : l.length ≤ 9223372036854775807) (H : ∀ (i : Nat) x, l[i]? = some x → Conv (f i ()) (bif p x then .inl () else .inr (.inr v))) :
    Conv (forI 0 (l.length : Int) (fun s => .inl s) f ()) (bif l.all p then .inl () else .inr v) :=
  (Conv_forL (fun _ x _ => bif p x then .inl () else .inr (.inr v)) hl fun i x _ hx => H i x hx).of (run_all p (.inr v) 0 l)
/-- the same, where the element's place matters to the test -/
theorem run_allI (p : Nat → α → Bool) (u : Unit ⊕ ρ) : ∀ (i : Nat) (l : List α), run (ρ := Unit ⊕ ρ) (fun j x _ => bif p j x then .inl () else .inr u) (fun s => .inl s) i l () = bif (l.zipIdx i).all (fun q => p q.2 q.1) then .inl () else u
  | _, [] => rfl
  | i, x :: xs => by
    simp only [run, List.zipIdx_cons, List.all_cons]
    cases p i x
    · rfl
    · simpa using run_allI p u (i + 1) xs
theorem Conv_allI {l : List α} {f : Int → Unit → M (Unit ⊕ (Unit ⊕ ρ))} (p : Nat → α → Bool) (v : ρ) (hl : l.length ≤ 9223372036854775807) (H : ∀ (i : Nat) x, l[i]? = some x → Conv (f i ()) (bif p i x then .inl () else .inr (.inr v))) :
    Conv (forI 0 (l.length : Int) (fun s => .inl s) f ()) (bif (l.zipIdx 0).all (fun q => p q.2 q.1) then .inl () else .inr v) :=
  (Conv_forL (fun j x _ => bif p j x then .inl () else .inr (.inr v)) hl fun i x _ hx => H i x hx).of (run_allI p (.inr v) 0 l)
/-- 'for i .. if p x, return i' -/
theorem run_find (p : α → Bool) : ∀ (i : Nat) (l : List α), run (σ := Unit) (ρ := Unit ⊕ Int) (fun j x _ => bif p x then .inr (.inr (j : Int)) else .inl ()) (fun s => .inl s) i l () = match l.findIdx? p with
    | some j => .inr ((i + j : Nat) : Int)
    | none => .inl ()
  | _, [] => rfl
  | i, x :: xs => by
    simp only [run, List.findIdx?_cons]
    cases hp : p x
    · simp only [cond_false, run_find p (i + 1) xs, Bool.false_eq_true, if_false]
      cases xs.findIdx? p with
      | none => rfl
      | some j => simp only [Option.map_some]; congr 2; omega
    · simp
theorem Conv_find {l : List α} {f : Int → Unit → M (Unit ⊕ (Unit ⊕ Int))} (p : α → Bool) (hl : l.length ≤ 9223372036854775807) (H : ∀ (i : Nat) x, l[i]? = some x → Conv (f i ()) (bif p x then .inr (.inr (i : Int)) else .inl ())) :
    Conv (forI 0 (l.length : Int) (fun s => .inl s) f ()) (match l.findIdx? p with | some j => .inr (j : Int) | none => .inl ()) :=
  (Conv_forL (fun j x _ => bif p x then .inr (.inr (j : Int)) else .inl ()) hl fun i x _ hx => H i x hx).of (by rw [run_find]; simp)
/-- sums: each round turns what has been gathered -/
theorem run_fold (g : σ → α → σ) : ∀ (i : Nat) (l : List α) (s : σ), run (fun _ x s => .inl (g s x)) (fun s => s) i l s = l.foldl g s
  | _, [], _ => rfl
  | i, x :: xs, s => by simpa [run] using run_fold g (i + 1) xs (g s x)
theorem Conv_fold {l : List α} {f : Int → σ → M (σ ⊕ σ)} {s : σ} (g : σ → α → σ) (hl : l.length ≤ 9223372036854775807) (H : ∀ (i : Nat) x s, l[i]? = some x → Conv (f i s) (.inl (g s x))) :
    Conv (forI 0 (l.length : Int) (fun s => s) f s) (l.foldl g s) :=
  (Conv_forL (fun _ x s => .inl (g s x)) hl fun i x s hx => H i x s hx).of (run_fold g 0 l s)
theorem get_set_append {l r : List α} {x y : α} : (l ++ y :: r).set l.length x = l ++ x :: r := by simp
/-- a loop that fills a list of the same length, element by element -/
theorem run_fill (g : Nat → α → β) (z : β) : ∀ (i : Nat) (l : List α) (d : List β), d.length = i →
    run (fun j x s => .inl (s.set j (g j x))) (fun s => s) i l (d ++ List.replicate l.length z) = d ++ (l.zipIdx i).map (fun q => g q.2 q.1)
  | _, [], d, _ => by simp [run]
  | i, x :: xs, d, hd => by
    subst hd
    simp only [run, List.length_cons, List.replicate_succ, get_set_append]
    have := run_fill g z (d.length + 1) xs (d ++ [g d.length x]) (by simp)
    simp only [List.append_assoc, List.singleton_append] at this
    rw [this]
    simp
theorem Conv_fill {l : List α} {f : Int → List β → M (List β ⊕ List β)} (g : Nat → α → β) (z : β) (hl : l.length ≤ 9223372036854775807)
    (H : ∀ (i : Nat) x s, l[i]? = some x → s.length = l.length → Conv (f i s) (.inl (s.set i (g i x)))) :
    Conv (forI 0 (l.length : Int) (fun s => s) f (List.replicate l.length z)) ((l.zipIdx 0).map (fun q => g q.2 q.1)) := by
  refine (Conv_forI (fun j x s => .inl (s.set j (g j x))) (fun _ s => s.length = l.length) hl (by simp) fun i x s hx hI => ⟨H i x s hx hI, fun s' e => ?_⟩).of ?_
  · cases e; simpa using hI
  · simpa using run_fill g z 0 l [] rfl
theorem zipIdx_map_fst {l : List α} {g : α → β} {i : Nat} : ((l.zipIdx i).map fun q => g q.1) = l.map g := by
  have h : List.map (g ∘ Prod.fst) (l.zipIdx i) = List.map g l := by rw [← List.map_map, List.zipIdx_map_fst]
  exact h
theorem findIdx_any {l : List α} {p : α → Bool} : (decide ((0:Int) ≤ match l.findIdx? p with | some j => (j : Int) | none => -1)) = l.any p := by
  cases h : l.findIdx? p with
  | none => rw [List.findIdx?_eq_none_iff] at h; simp; exact fun x hx => by simpa using h x hx
  | some j =>
    obtain ⟨hj, hp, _⟩ := List.findIdx?_eq_some_iff_getElem.1 h
    simp
    exact ⟨_, List.getElem_mem hj, hp⟩
end M

def finB (x : Int) : Bool := decide (-1000000 ≤ x) && decide (x ≤ 1000000)
def valB (x : Int) : Bool := x == (-1000000000000000) || finB x
theorem eqInt64S_ok {a b : List Int} (ha : a.length ≤ 9223372036854775807) : M.Conv (laws_eqInt64S a b) (decide (a = b)) := by
  unfold laws_eqInt64S
  refine M.Conv_ite (fun h => ?_) (fun h => ?_)
  · have : a ≠ b := by rintro rfl; simp at h
    rw [decide_eq_false this]; exact M.Conv_ret _
  · have hl : a.length = b.length := Int.ofNat.inj (by simpa using h)
    refine M.Conv_bind (M.Conv_allI (fun i x => b[i]? == some x) false ha fun i x hx => ?_) ?_
    · have hi := (List.getElem?_eq_some_iff.1 hx).1
      refine M.Conv_bind (M.Conv_get (by omega) (by simpa using hx)) ?_
      refine M.Conv_bind (M.Conv_get (x := b[i]) (by omega) (by simp [show i < b.length by omega])) ?_
      have hb : (b[i]? == some x) = !(x != b[i]) := by rw [List.getElem?_eq_getElem (by omega), bne, Bool.not_not, Option.some_beq_some, BEq.comm]
      rw [hb]
      cases (x != b[i]) <;> exact M.Conv_ret _
    · have key : ((a.zipIdx 0).all fun q => b[q.2]? == some q.1) = decide (a = b) := by
        by_cases e : a = b
        · subst e
          rw [decide_eq_true rfl, List.all_eq_true]
          rintro ⟨x, i⟩ hq
          have := List.mk_mem_zipIdx_iff_getElem?.1 hq
          simp [this]
        · rw [decide_eq_false e, Bool.eq_false_iff]
          intro h
          apply e
          rw [List.all_eq_true] at h
          refine List.ext_getElem hl fun i h1 h2 => ?_
          have := h (a[i], i) (List.mk_mem_zipIdx_iff_getElem?.2 (List.getElem?_eq_getElem h1))
          simp [h2] at this
          exact this.symm
      rw [key]
      cases decide (a = b) <;> exact M.Conv_ret _
theorem spec_l01In_ok (x lo hi : Int) : M.Conv (spec_l01In x lo hi) (decide (lo ≤ x) && decide (x ≤ hi)) := M.Conv_ret _
theorem spec_l01Finite_ok (x : Int) : M.Conv (spec_l01Finite x) (finB x) := M.Conv_bind (spec_l01In_ok _ _ _) (M.Conv_ret _)
theorem spec_IsValue_ok (x : Int) : M.Conv (spec_IsValue x) (valB x) := by
  unfold spec_IsValue
  refine M.Conv_bind (M.Conv_ite (r := valB x) (fun h => ?_) (fun h => ?_)) (M.Conv_ret _)
  · simp only [valB, h, Bool.true_or]; exact M.Conv_ret _
  · simp only [valB, h, Bool.false_or]; exact M.Conv_bind (spec_l01Finite_ok x) (M.Conv_ret _)
theorem spec_l01All_ok {l : List Int} (f : Bool) (hl : l.length ≤ 9223372036854775807) : M.Conv (spec_l01All l f) (l.all fun x => valB x && !(f && x == (-1000000000000000))) := by
  unfold spec_l01All
  refine M.Conv_bind (M.Conv_all (fun x => valB x && !(f && x == (-1000000000000000))) false hl fun i x hx => ?_) ?_
  · refine M.Conv_bind (M.Conv_get (by omega) (by simpa using hx)) (M.Conv_bind (spec_IsValue_ok x) ?_)
    refine M.Conv_bind (x := !(valB x && !(f && x == (-1000000000000000)))) (M.Conv_ite (fun h => ?_) (fun h => ?_)) ?_
    · simp at h; simp [h]; exact M.Conv_ret _
    · simp at h
      refine M.Conv_bind (x := (f && x == (-1000000000000000))) (M.Conv_ite (fun h => ?_) (fun h => ?_)) (by simp [h]; exact M.Conv_ret _)
      · simp [h]; exact M.Conv_bind (M.Conv_get (by omega) (by simpa using hx)) (M.Conv_ret _)
      · simp [h]; exact M.Conv_ret _
    · cases (valB x && !(f && x == (-1000000000000000))) <;> exact M.Conv_ret _
  · cases (l.all fun x => valB x && !(f && x == (-1000000000000000))) <;> exact M.Conv_ret _
theorem impl_within_ok (x lo hi : Int) : M.Conv (impl_within x lo hi) (decide (lo ≤ x) && decide (x ≤ hi)) := M.Conv_ret _
theorem impl_isFinite_ok (x : Int) : M.Conv (impl_isFinite x) (finB x) := M.Conv_bind (impl_within_ok _ _ _) (M.Conv_ret _)
theorem impl_IsValue_ok (x : Int) : M.Conv (impl_IsValue x) (valB x) := by
  unfold impl_IsValue
  refine M.Conv_bind (M.Conv_ite (r := valB x) (fun h => ?_) (fun h => ?_)) (M.Conv_ret _)
  · simp only [valB, h, Bool.true_or]; exact M.Conv_ret _
  · simp only [valB, h, Bool.false_or]; exact M.Conv_bind (impl_isFinite_ok x) (M.Conv_ret _)
/-- 'slices.ContainsFunc', behind 'slices.IndexFunc' -/
theorem contains_ok {α : Type} {l : List α} {f : Int → Unit → M (Unit ⊕ (Unit ⊕ Int))} (p : α → Bool) (hl : l.length ≤ 9223372036854775807) (H : ∀ (i : Nat) x, l[i]? = some x → M.Conv (f i ()) (bif p x then .inr (.inr (i : Int)) else .inl ())) :
    M.Conv (M.bind (M.bind (M.forI 0 (l.length : Int) (fun s => .inl s) f ()) (fun x1 => M.cont x1 (fun _ => M.ret (-1)) (fun r => M.ret r))) (fun x1 => M.ret (decide (0 ≤ x1)))) (l.any p) := by
  rw [← M.findIdx_any]
  refine M.Conv_bind (M.Conv_bind (M.Conv_find p hl H) ?_) (M.Conv_ret _)
  cases l.findIdx? p <;> exact M.Conv_ret _
theorem any_not {α : Type} {l : List α} {p : α → Bool} : (!l.any fun x => !p x) = l.all p := by
  induction l with
  | nil => rfl
  | cons x xs ih => simp only [List.any_cons, List.all_cons, Bool.not_or, Bool.not_not, ih]
theorem impl_areValues_ok {l : List Int} (hl : l.length ≤ 9223372036854775807) : M.Conv (impl_areValues l) (l.all valB) := by
  unfold impl_areValues slices_ContainsFunc_int_F_impl_areValues_1 slices_IndexFunc_int_F_impl_areValues_1
  refine M.Conv_bind (contains_ok (fun x => !valB x) hl fun i x hx => ?_) ((M.Conv_ret _).of any_not)
  refine M.Conv_bind (M.Conv_get (by omega) (by simpa using hx)) ?_
  refine M.Conv_bind (x := !valB x) (M.Conv_bind (impl_IsValue_ok x) (M.Conv_ret _)) ?_
  cases valB x <;> exact M.Conv_ret _
theorem mx_eq (a b : Int) : mx a b = max a b := by unfold mx; split <;> omega
def smI (l : List Int) : Prop := l.length ≤ 1099511627776
theorem finB_bd {x : Int} (h : finB x = true) : -1000000 ≤ x ∧ x ≤ 1000000 := by simpa [finB] using h
theorem val_ne {x : Int} (h : valB x = true) (hn : (x == (-1000000000000000)) = false) : finB x = true := by simpa [valB, hn] using h
/-- an index below k, whose coefficient is finite -/
def termB (c : List Int) (k : Nat) (t : Int) : Prop := 0 ≤ t ∧ t < k ∧ ∃ x, c[t.toNat]? = some x ∧ finB x = true
/-- two programs, one answer -/
def Two {α : Type} (m m' : M α) (Post : α → Prop) : Prop := ∃ r, M.Conv m r ∧ M.Conv m' r ∧ Post r
theorem Two.mk {α : Type} {m m' : M α} {Post : α → Prop} {r : α} (h : M.Conv m r) (h' : M.Conv m' r) (p : Post r) : Two m m' Post := ⟨r, h, h', p⟩
theorem Two.ret {α : Type} {Post : α → Prop} (r : α) (p : Post r) : Two (M.ret r) (M.ret r) Post := ⟨r, M.Conv_ret _, M.Conv_ret _, p⟩
theorem Two.bind {α β : Type} {m m' : M α} {f f' : α → M β} {P : α → Prop} {Q : β → Prop} (h : Two m m' P) (g : ∀ x, P x → Two (f x) (f' x) Q) : Two (M.bind m f) (M.bind m' f') Q := by
  obtain ⟨x, h1, h2, p⟩ := h
  obtain ⟨r, g1, g2, q⟩ := g x p
  exact ⟨r, M.Conv_bind h1 g1, M.Conv_bind h2 g2, q⟩
theorem Two.bindC {α α' β : Type} {m : M α} {m' : M α'} {f : α → M β} {f' : α' → M β} {Q : β → Prop} {x : α} {x' : α'} (h : M.Conv m x) (h' : M.Conv m' x') (g : Two (f x) (f' x') Q) : Two (M.bind m f) (M.bind m' f') Q := by
  obtain ⟨r, g1, g2, q⟩ := g
  exact ⟨r, M.Conv_bind h g1, M.Conv_bind h' g2, q⟩
theorem Two.left {α β : Type} {m : M α} {m' : M β} {f : α → M β} {Q : β → Prop} {x : α} (h : M.Conv m x) (g : Two (f x) m' Q) : Two (M.bind m f) m' Q := by
  obtain ⟨r, g1, g2, q⟩ := g
  exact ⟨r, M.Conv_bind h g1, g2, q⟩
theorem Two.right {α β : Type} {m : M α} {m' : M β} {f : α → M β} {Q : β → Prop} {x : α} (h : M.Conv m x) (g : Two m' (f x) Q) : Two m' (M.bind m f) Q := by
  obtain ⟨r, g1, g2, q⟩ := g
  exact ⟨r, g1, M.Conv_bind h g2, q⟩
theorem Two.ite {α : Type} {b : Bool} {x y x' y' : M α} {Q : α → Prop} (h1 : b = true → Two x x' Q) (h2 : b = false → Two y y' Q) : Two (M.ite b x y) (M.ite b x' y') Q := by
  cases b
  · exact h2 rfl
  · exact h1 rfl
theorem Two.iteL {α : Type} {b : Bool} {x y m' : M α} {Q : α → Prop} (h1 : b = true → Two x m' Q) (h2 : b = false → Two y m' Q) : Two (M.ite b x y) m' Q := by
  cases b
  · exact h2 rfl
  · exact h1 rfl
theorem Two.iteR {α : Type} {b : Bool} {x y m' : M α} {Q : α → Prop} (h1 : b = true → Two m' x Q) (h2 : b = false → Two m' y Q) : Two m' (M.ite b x y) Q := by
  cases b
  · exact h2 rfl
  · exact h1 rfl
theorem Two.mono {α : Type} {m m' : M α} {P Q : α → Prop} (h : Two m m' P) (hp : ∀ r, P r → Q r) : Two m m' Q := let ⟨r, a, b, c⟩ := h; ⟨r, a, b, hp r c⟩
theorem two_forN {σ ρ : Type} {hi : Int} {fin : σ → ρ} {f f' : Int → σ → M (σ ⊕ ρ)} {Post : ρ → Prop} (I : Int → σ → Prop) (lo : Int)
    (round : ∀ i s, lo ≤ i → i < hi → I i s → Two (f i s) (f' i s) fun y => (∃ s', y = .inl s' ∧ I (i + 1) s') ∨ (∃ r, y = .inr r ∧ Post r)) :
    ∀ (d : Nat) (i : Int) (s : σ), (hi - i).toNat = d → lo ≤ i → (i ≤ hi ∨ i = lo) → I i s → (∀ i s, (i = hi ∨ i = lo ∧ hi ≤ lo) → I i s → Post (fin s)) → ∃ r, (∃ N, ∀ n, N ≤ n → M.forN hi fin f n d i s = some r) ∧ (∃ N, ∀ n, N ≤ n → M.forN hi fin f' n d i s = some r) ∧ Post r
  | 0, i, s, hd, h1, h2, hI, fi => by
    have hge : ¬ i < hi := by omega
    exact ⟨fin s, ⟨0, fun n _ => by simp [M.forN, hge]⟩, ⟨0, fun n _ => by simp [M.forN, hge]⟩, fi i s (by omega) hI⟩
  | d + 1, i, s, hd, h1, h2, hI, fi => by
    have hlt : i < hi := by omega
    obtain ⟨y, ⟨N, hy⟩, ⟨N', hy'⟩, hc⟩ := round i s h1 hlt hI
    rcases hc with ⟨s', rfl, hI'⟩ | ⟨r, rfl, hp⟩
    · obtain ⟨r, ⟨N1, h3⟩, ⟨N2, h4⟩, hp⟩ := two_forN (fin := fin) I lo round d (i + 1) s' (by omega) (by omega) (by omega) hI' fi
      exact ⟨r, ⟨max N N1, fun n hn => by simp [M.forN, hlt, hy n (by omega), h3 n (by omega)]⟩, ⟨max N' N2, fun n hn => by simp [M.forN, hlt, hy' n (by omega), h4 n (by omega)]⟩, hp⟩
    · exact ⟨r, ⟨N, fun n hn => by simp [M.forN, hlt, hy n hn]⟩, ⟨N', fun n hn => by simp [M.forN, hlt, hy' n hn]⟩, hp⟩
theorem Two.for {σ ρ : Type} {lo hi : Int} {fin : σ → ρ} {f f' : Int → σ → M (σ ⊕ ρ)} {s : σ} {Post : ρ → Prop} (I : Int → σ → Prop) (hlo : -9223372036854775808 ≤ lo) (hhi : hi ≤ 9223372036854775807) (h0 : I lo s)
    (round : ∀ i s, lo ≤ i → i < hi → I i s → Two (f i s) (f' i s) fun y => (∃ s', y = .inl s' ∧ I (i + 1) s') ∨ (∃ r, y = .inr r ∧ Post r)) (done : ∀ i s, (i = hi ∨ i = lo ∧ hi ≤ lo) → I i s → Post (fin s)) :
    Two (M.forI lo hi fin f s) (M.forI lo hi fin f' s) Post := by
  obtain ⟨r, ⟨N, h1⟩, ⟨N', h2⟩, hp⟩ := two_forN (fin := fin) I lo round _ lo s rfl (Int.le_refl _) (.inr rfl) h0 done
  exact ⟨r, ⟨N, fun n hn => by simp [M.forI, hlo, hhi, h1 n hn]⟩, ⟨N', fun n hn => by simp [M.forI, hlo, hhi, h2 n hn]⟩, hp⟩
def timesI (a b : Int) : Int := bif (a == (-1000000000000000)) || (b == (-1000000000000000)) then (-1000000000000000) else w64 (a + b)
theorem spec_l01Times_ok (a b : Int) : M.Conv (spec_l01Times a b) (timesI a b) := M.Conv_ite2 (fun _ => M.Conv_ret _) (fun _ => M.Conv_ret _)
theorem impl_times_ok (a b : Int) : M.Conv (impl_times a b) (timesI a b) := M.Conv_ite2 (fun _ => M.Conv_ret _) (fun _ => M.Conv_ret _)
theorem spec_l07Shift_ok {x : List Int} (g : Int) (h : x.length ≤ 1099511627) : M.Conv (spec_l07Shift x g) (x.map (timesI · g)) := by
  unfold spec_l07Shift
  refine M.Conv_bind ((M.Conv_forI (fun _ y s => .inl (s ++ [timesI y g])) (fun i s => s.length = i) (by omega) rfl fun i y s hy hs => ?_).of (?_ : _ = x.map (timesI · g))) (M.Conv_ret _)
  · have hi := (List.getElem?_eq_some_iff.1 hy).1
    refine ⟨M.Conv_bind (M.Conv_get (by omega) (by simpa using hy)) (M.Conv_bind (spec_l01Times_ok _ _) (M.Conv_bind (M.Conv_app (by simp; omega)) (M.Conv_ret _))), fun s' e => by cases e; simp [hs]⟩
  · have key : ∀ (xs : List Int) (i : Nat) (s : List Int), M.run (ρ := List Int) (fun _ y s => .inl (s ++ [timesI y g])) (fun s => s) i xs s = s ++ xs.map (timesI · g) := by
      intro xs
      induction xs with
      | nil => intro i s; simp [M.run]
      | cons x xs ih => intro i s; simp [M.run, ih]
    simpa using key x 0 []
theorem impl_shiftedVector_ok {x : List Int} (g : Int) (h : x.length ≤ 1099511627) : M.Conv (impl_shiftedVector x g) (x.map (timesI · g)) := by
  unfold impl_shiftedVector
  refine M.Conv_bind (M.Conv_make (by omega) (by omega)) (M.Conv_bind ((M.Conv_fill (l := x) (fun _ y => timesI y g) 0 (by omega) fun i y s hy hs => ?_).of (?_ : _ = x.map (timesI · g))) (M.Conv_ret _))
  · have hi := (List.getElem?_eq_some_iff.1 hy).1
    exact M.Conv_bind (M.Conv_get (by omega) (by simpa using hy)) (M.Conv_bind (impl_times_ok _ _) (M.Conv_bind (M.Conv_get (x := s[i]) (by omega) (by simp [show i < s.length by omega])) (M.Conv_bind (M.Conv_upd (by omega)) (M.Conv_ret _))))
  · exact M.zipIdx_map_fst (g := fun v => timesI v g)
/-- a vector: one to ten values -/
def vecB (x : List Int) : Bool := decide (1 ≤ x.length) && decide (x.length ≤ 10) && x.all valB
theorem spec_l02Vector_ok {x : List Int} (hl : x.length ≤ 9223372036854775807) : M.Conv (spec_l02Vector x) (vecB x) := by
  unfold spec_l02Vector
  refine M.Conv_bind (spec_l01In_ok _ _ _) (M.Conv_bind (x := vecB x) (M.Conv_ite (fun h => ?_) (fun h => ?_)) (M.Conv_ret _))
  · refine M.Conv_bind (spec_l01All_ok false hl) ((M.Conv_ret _).of ?_)
    simp at h
    simp [vecB, show 1 ≤ x.length by omega, show x.length ≤ 10 by omega]
  · refine (M.Conv_ret _).of ?_
    simp only [vecB]
    rw [show (decide (1 ≤ x.length) && decide (x.length ≤ 10)) = false by rw [← h]; congr 1 <;> simp <;> omega]; rfl
theorem impl_isVector_ok {x : List Int} (hl : x.length ≤ 9223372036854775807) : M.Conv (impl_isVector x) (vecB x) := by
  unfold impl_isVector
  refine M.Conv_bind (impl_within_ok _ _ _) (M.Conv_bind (x := vecB x) (M.Conv_ite (fun h => ?_) (fun h => ?_)) (M.Conv_ret _))
  · refine M.Conv_bind (impl_areValues_ok hl) ((M.Conv_ret _).of ?_)
    simp at h
    simp [vecB, show 1 ≤ x.length by omega, show x.length ≤ 10 by omega]
  · refine (M.Conv_ret _).of ?_
    simp only [vecB]
    rw [show (decide (1 ≤ x.length) && decide (x.length ≤ 10)) = false by rw [← h]; congr 1 <;> simp <;> omega]; rfl
theorem impl_checkedVector_ok {x : List Int} (hl : x.length ≤ 9223372036854775807) : M.Conv (impl_checkedVector x) (bif x.all valB then (x, 0) else ([], 3)) := by
  unfold impl_checkedVector
  refine M.Conv_bind (impl_areValues_ok hl) (M.Conv_ite (fun h => ?_) (fun h => ?_))
  · simp only [Bool.not_eq_true'] at h; rw [h]; exact M.Conv_ret _
  · simp only [Bool.not_eq_false'] at h; rw [h]; exact M.Conv_ret _
theorem eqLoop_ok {a b : List Int} (ha : a.length ≤ 9223372036854775807) (hl : a.length = b.length) : M.Conv (M.forI 0 (a.length : Int) (fun s => .inl s) (fun i1 => (fun (_ : Unit) => M.bind (M.idx a i1) (fun x2 => M.bind (M.idx b i1) (fun x3 => M.ite (x2 != x3) (M.ret (.inr (.inr false))) (M.ret (.inl ())))))) ()) (bif decide (a = b) then (.inl () : Unit ⊕ Bool) else .inr false) := by
  have h := eqInt64S_ok (b := b) ha
  refine (M.Conv_allI (fun i x => b[i]? == some x) false ha fun i x hx => ?_).of ?_
  · have hi := (List.getElem?_eq_some_iff.1 hx).1
    refine M.Conv_bind (M.Conv_get (by omega) (by simpa using hx)) ?_
    refine M.Conv_bind (M.Conv_get (x := b[i]) (by omega) (by simp [show i < b.length by omega])) ?_
    have hb : (b[i]? == some x) = !(x != b[i]) := by rw [List.getElem?_eq_getElem (by omega), bne, Bool.not_not, Option.some_beq_some, BEq.comm]
    rw [hb]
    cases (x != b[i]) <;> exact M.Conv_ret _
  · have key : ((a.zipIdx 0).all fun q => b[q.2]? == some q.1) = decide (a = b) := by
      by_cases e : a = b
      · subst e
        rw [decide_eq_true rfl, List.all_eq_true]
        rintro ⟨x, i⟩ hq
        have := List.mk_mem_zipIdx_iff_getElem?.1 hq
        simp [this]
      · rw [decide_eq_false e, Bool.eq_false_iff]
        intro h
        apply e
        rw [List.all_eq_true] at h
        refine List.ext_getElem hl fun i h1 h2 => ?_
        have := h (a[i], i) (List.mk_mem_zipIdx_iff_getElem?.2 (List.getElem?_eq_getElem h1))
        simp [h2] at this
        exact this.symm
    rw [key]
theorem spec_l01Same_ok {a b : List Int} (ha : a.length ≤ 9223372036854775807) : M.Conv (spec_l01Same a b) (decide (a = b)) := by
  unfold spec_l01Same
  refine M.Conv_ite (fun h => ?_) (fun h => ?_)
  · have : a ≠ b := by rintro rfl; simp at h
    rw [decide_eq_false this]; exact M.Conv_ret _
  · have hl : a.length = b.length := Int.ofNat.inj (by simpa using h)
    refine M.Conv_bind (eqLoop_ok ha hl) ?_
    cases decide (a = b) <;> exact M.Conv_ret _
def okTPlace (p : TPlace) : Prop := inI64 p.From ∧ inI64 p.To ∧ inI64 p.Delay ∧ inI64 p.Tokens
def okTGraph (g : TGraph) : Prop := inI64 g.Events ∧ fitL okTPlace g.Places
def smP (l : List TPlace) : Prop := l.length ≤ 1099511627
def smG (g : TGraph) : Prop := smP g.Places
def smII (a : List (List Int)) : Prop := a.length ≤ 1048576 ∧ ∀ r ∈ a, r.length ≤ 1048576
def widthN (a : List (List Int)) : Nat := (a.headD []).length
def matB (a : List (List Int)) : Bool := (decide (1 ≤ a.length) && decide (a.length ≤ 10)) && ((decide (1 ≤ widthN a) && decide (widthN a ≤ 10)) && a.all fun r => decide (r.length = widthN a) && r.all valB)
/-- a matrix of w columns -/
structure Mat (a : List (List Int)) (w : Nat) : Prop where
  rows : 1 ≤ a.length ∧ a.length ≤ 10
  cols : 1 ≤ w ∧ w ≤ 10
  row : ∀ r ∈ a, r.length = w ∧ ∀ x ∈ r, valB x = true
theorem matB_mat {a : List (List Int)} (h : matB a = true) : Mat a (widthN a) := by
  simp only [matB, Bool.and_eq_true, decide_eq_true_eq, List.all_eq_true] at h
  exact ⟨h.1, h.2.1, fun r hr => ⟨(h.2.2 r hr).1, (h.2.2 r hr).2⟩⟩
theorem Mat.head {a : List (List Int)} {w : Nat} (h : Mat a w) : ∃ r, a[0]? = some r ∧ r.length = w := by
  have := h.rows
  exact ⟨a[0], List.getElem?_eq_getElem (by omega), (h.row _ (List.getElem_mem (by omega))).1⟩
theorem spec_IsMatrix_ok {a : List (List Int)} (h : smII a) : M.Conv (spec_IsMatrix a) (matB a) := by
  unfold spec_IsMatrix
  have hl := h.1
  refine M.Conv_ite (fun q => (M.Conv_ret _).of ?_) (fun q => ?_)
  · simp only [Bool.or_eq_true, decide_eq_true_eq] at q
    have : (decide (1 ≤ a.length) && decide (a.length ≤ 10)) = false := by
      rcases q with q | q
      · rw [decide_eq_false (show ¬ 1 ≤ a.length by omega)]; rfl
      · rw [decide_eq_false (show ¬ a.length ≤ 10 by omega)]; simp
    simp [matB, this]
  · simp only [Bool.or_eq_false_iff, decide_eq_false_iff_not] at q
    obtain ⟨r0, rs, rfl⟩ := List.exists_cons_of_ne_nil (l := a) (by rintro rfl; simp at q)
    refine M.Conv_bind (M.Conv_all (fun r => vecB r && decide (r.length = r0.length)) false (by omega) fun i r hr => ?_) ?_
    · have hrl := h.2 r (List.mem_of_getElem? hr)
      have hg : M.Conv (M.idx (r0 :: rs) i) r := M.Conv_get (by omega) (by simpa using hr)
      refine M.Conv_bind hg (M.Conv_bind (spec_l02Vector_ok (by omega)) (M.Conv_bind (x := !(vecB r && decide (r.length = r0.length))) (M.Conv_ite (fun b => ?_) (fun b => ?_)) ?_))
      · simp only [Bool.not_eq_true'] at b; rw [b]; exact M.Conv_ret _
      · simp only [Bool.not_eq_false'] at b
        rw [b]
        refine M.Conv_bind hg (M.Conv_bind (M.Conv_get (x := r0) (by omega) rfl) ((M.Conv_ret _).of ?_))
        simp only [Bool.true_and, bne]
        congr 1
        rw [Bool.eq_iff_iff]; simp; omega
      · cases (vecB r && decide (r.length = r0.length)) <;> exact M.Conv_ret _
    · have e : matB (r0 :: rs) = (r0 :: rs).all fun r => vecB r && decide (r.length = r0.length) := by
        have L : matB (r0 :: rs) = true ↔ ((1 ≤ (r0 :: rs).length ∧ (r0 :: rs).length ≤ 10) ∧ ((1 ≤ r0.length ∧ r0.length ≤ 10) ∧ ∀ r ∈ r0 :: rs, r.length = r0.length ∧ r.all valB = true)) := by
          have e0 : matB (r0 :: rs) = ((decide (1 ≤ (r0 :: rs).length) && decide ((r0 :: rs).length ≤ 10)) && ((decide (1 ≤ r0.length) && decide (r0.length ≤ 10)) && (r0 :: rs).all fun r => decide (r.length = r0.length) && r.all valB)) := rfl
          rw [e0, Bool.and_eq_true, Bool.and_eq_true, Bool.and_eq_true, Bool.and_eq_true, List.all_eq_true]
          simp only [decide_eq_true_eq, Bool.and_eq_true]
        have R : ∀ r : List Int, (vecB r && decide (r.length = r0.length)) = true ↔ ((1 ≤ r.length ∧ r.length ≤ 10) ∧ r.all valB = true) ∧ r.length = r0.length := by
          intro r
          unfold vecB
          simp only [Bool.and_eq_true, decide_eq_true_eq]
        rw [Bool.eq_iff_iff, List.all_eq_true, L]
        constructor
        · rintro ⟨_, ⟨h1, h2⟩, h3⟩ r hr
          obtain ⟨e1, e2⟩ := h3 r hr
          exact (R r).2 ⟨⟨⟨by omega, by omega⟩, e2⟩, e1⟩
        · intro hh
          obtain ⟨⟨⟨e1, e2⟩, _⟩, _⟩ := (R r0).1 (hh r0 List.mem_cons_self)
          exact ⟨⟨by omega, by omega⟩, ⟨e1, e2⟩, fun r hr => ⟨((R r).1 (hh r hr)).2, ((R r).1 (hh r hr)).1.2⟩⟩
      rw [e]
      cases ((r0 :: rs).all fun r => vecB r && decide (r.length = r0.length)) <;> exact M.Conv_ret _
theorem impl_IsMatrix_ok {a : List (List Int)} (h : smII a) : M.Conv (impl_IsMatrix a) (matB a) := by
  unfold impl_IsMatrix slices_ContainsFunc_row_F_impl_IsMatrix_1 slices_IndexFunc_row_F_impl_IsMatrix_1
  have hl := h.1
  refine M.Conv_bind (impl_within_ok _ _ _) ?_
  have e0 : (decide (1 ≤ (a.length : Int)) && decide ((a.length : Int) ≤ 10)) = (decide (1 ≤ a.length) && decide (a.length ≤ 10)) := by
    rw [decide_eq_decide.2 (show (1 : Int) ≤ a.length ↔ 1 ≤ a.length by omega), decide_eq_decide.2 (show (a.length : Int) ≤ 10 ↔ a.length ≤ 10 by omega)]
  rw [e0]
  cases hb : (decide (1 ≤ a.length) && decide (a.length ≤ 10)) with
  | false => exact M.Conv_bind (x := true) (M.Conv_ret _) ((M.Conv_ret _).of (by simp [matB, hb]))
  | true =>
    simp only [Bool.and_eq_true, decide_eq_true_eq] at hb
    obtain ⟨r0, rs, rfl⟩ := List.exists_cons_of_ne_nil (l := a) (by rintro rfl; simp at hb)
    have e1 : (decide (1 ≤ (r0.length : Int)) && decide ((r0.length : Int) ≤ 10)) = (decide (1 ≤ widthN (r0 :: rs)) && decide (widthN (r0 :: rs) ≤ 10)) := by
      rw [decide_eq_decide.2 (show (1 : Int) ≤ r0.length ↔ 1 ≤ r0.length by omega), decide_eq_decide.2 (show (r0.length : Int) ≤ 10 ↔ r0.length ≤ 10 by omega)]; rfl
    refine M.Conv_bind (x := !(decide (1 ≤ widthN (r0 :: rs)) && decide (widthN (r0 :: rs) ≤ 10))) (M.Conv_ite (fun q => by simp at q) (fun _ => M.Conv_bind (M.Conv_get (x := r0) (by omega) rfl) (M.Conv_bind (impl_within_ok _ _ _) ((M.Conv_ret _).of (by rw [e1]))))) ?_
    have e2 : matB (r0 :: rs) = ((decide (1 ≤ widthN (r0 :: rs)) && decide (widthN (r0 :: rs) ≤ 10)) && (r0 :: rs).all fun r => decide (r.length = widthN (r0 :: rs)) && r.all valB) := by
      simp only [matB, decide_eq_true hb.1, decide_eq_true hb.2, Bool.true_and]
    rw [e2]
    cases (decide (1 ≤ widthN (r0 :: rs)) && decide (widthN (r0 :: rs) ≤ 10)) with
    | false => exact M.Conv_ret _
    | true =>
      refine M.Conv_ite (fun q => by simp at q) (fun _ => ?_)
      refine M.Conv_bind (contains_ok (fun r => !(decide (r.length = widthN (r0 :: rs)) && r.all valB)) (by omega) fun i r hr => ?_) ((M.Conv_ret _).of (by rw [any_not, Bool.true_and]))
      have hrl := h.2 r (List.mem_of_getElem? hr)
      refine M.Conv_bind (M.Conv_get (by omega) (by simpa using hr)) (M.Conv_bind (x := !(decide (r.length = widthN (r0 :: rs)) && r.all valB)) (M.Conv_bind (M.Conv_get (x := r0) (by omega) rfl) (M.Conv_bind (x := !(decide (r.length = widthN (r0 :: rs)) && r.all valB)) (M.Conv_ite (fun q => ?_) (fun q => ?_)) (M.Conv_ret _))) ?_)
      · have : r.length ≠ widthN (r0 :: rs) := fun e => by rw [show r.length = r0.length from e] at q; simp at q
        rw [decide_eq_false this]; exact M.Conv_ret _
      · have : r.length = widthN (r0 :: rs) := Int.ofNat.inj (show (r.length : Int) = r0.length by simpa using q)
        rw [decide_eq_true this]; exact M.Conv_bind (impl_areValues_ok (by omega)) (M.Conv_ret _)
      · cases (decide (r.length = widthN (r0 :: rs)) && r.all valB) <;> exact M.Conv_ret _

def foldI {α σ : Type} (g : Nat → α → σ → σ) : Nat → List α → σ → σ
  | _, [], s => s
  | i, x :: xs, s => foldI g (i + 1) xs (g i x s)
theorem run_foldI {α σ ρ : Type} (g : Nat → α → σ → σ) (fin : σ → ρ) : ∀ (l : List α) (i : Nat) (s : σ), M.run (fun i x s => .inl (g i x s)) fin i l s = fin (foldI g i l s)
  | [], _, _ => rfl
  | x :: xs, i, s => by simp only [M.run, foldI]; exact run_foldI g fin xs (i + 1) (g i x s)
theorem Conv_foldI {α σ : Type} {l : List α} {f : Int → σ → M (σ ⊕ σ)} {s : σ} (g : Nat → α → σ → σ) (I : Nat → σ → Prop) (hl : l.length ≤ 9223372036854775807) (h0 : I 0 s) (H : ∀ (i : Nat) x s, l[i]? = some x → I i s → M.Conv (f i s) (.inl (g i x s)) ∧ I (i + 1) (g i x s)) :
    M.Conv (M.forI 0 (l.length : Int) (fun s => s) f s) (foldI g 0 l s) :=
  (M.Conv_forI (fun i x s => .inl (g i x s)) I hl h0 fun i x s hx hI => ⟨(H i x s hx hI).1, fun s' e => by cases e; exact (H i x s hx hI).2⟩).of (run_foldI g _ l 0 s)
theorem val_cases {x : Int} (h : valB x = true) : x = -1000000000000000 ∨ (-1000000 ≤ x ∧ x ≤ 1000000) := by
  cases hb : (x == (-1000000000000000)) with
  | true => left; simpa using hb
  | false => right; exact finB_bd (val_ne h hb)
theorem Mat.get {a : List (List Int)} {w i : Nat} {row : List Int} (hm : Mat a w) (h : a[i]? = some row) {j : Nat} (hj : j < w) : M.Conv (M.idx row (j : Int)) ((row[j]?).getD 0) ∧ valB ((row[j]?).getD 0) = true := by
  obtain ⟨e1, e2⟩ := hm.row row (List.mem_of_getElem? h)
  rw [List.getElem?_eq_getElem (by omega)]
  exact ⟨M.Conv_get (by omega) (by simp [show j < row.length by omega]), e2 _ (List.getElem_mem _)⟩
theorem get_row {a : List (List Int)} {i : Nat} {row : List Int} (h : a[i]? = some row) : M.Conv (M.idx a (i : Int)) row := M.Conv_get (by omega) (by simpa using h)
def dotL (x row : List Int) : Int := foldI (fun j v s => mx s (timesI v ((x[j]?).getD 0))) 0 row (-1000000000000000)
theorem Conv_forV {σ : Type} {n : Nat} {f : Int → σ → M (σ ⊕ σ)} (val : Nat → σ) (hn : n ≤ 9223372036854775807) (h : ∀ i, i < n → M.Conv (f i (val i)) (.inl (val (i + 1)))) : M.Conv (M.forI 0 (n : Int) (fun s => s) f (val 0)) (val n) := by
  have := M.Conv_forI (l := List.range n) (f := f) (fin := fun s => s) (s := val 0) (ρ := σ) (fun i _ _ => .inl (val (i + 1))) (fun i s => s = val i) (by simpa using hn) rfl (fun i x s hx hs => by
    subst hs
    have hi := (List.getElem?_eq_some_iff.1 hx).1
    exact ⟨h i (by simpa using hi), fun s' e => by cases e; rfl⟩)
  simp only [List.length_range] at this
  refine this.of ?_
  have run : ∀ (m i : Nat), M.run (σ := σ) (ρ := σ) (fun i (_ : Nat) _ => .inl (val (i + 1))) (fun s => s) i (List.range m) (val i) = val (i + m) := by
    have g : ∀ (l : List Nat) (i : Nat), M.run (σ := σ) (ρ := σ) (fun i (_ : Nat) _ => .inl (val (i + 1))) (fun s => s) i l (val i) = val (i + l.length) := by
      intro l
      induction l with
      | nil => intro i; rfl
      | cons x xs ih => intro i; simp only [M.run, List.length_cons]; rw [ih (i + 1)]; congr 1; omega
    intro m i
    rw [g, List.length_range]
  simpa using run n 0
def sqB (a : List (List Int)) : Bool := matB a && decide (a.length = widthN a)
theorem head_of_mat {a : List (List Int)} (h : matB a = true) : ∃ r, a[0]? = some r ∧ r.length = widthN a := (matB_mat h).head
theorem spec_l02Square_ok {a : List (List Int)} (h : smII a) : M.Conv (spec_l02Square a) (sqB a) := by
  refine M.Conv_bind (spec_IsMatrix_ok h) (M.Conv_bind (x := sqB a) (M.Conv_ite (fun q => ?_) (fun q => (M.Conv_ret _).of (by simp [sqB, q]))) (M.Conv_ret _))
  obtain ⟨r, h0, hl⟩ := head_of_mat q
  refine M.Conv_bind (get_row h0) ((M.Conv_ret _).of ?_)
  rw [hl, sqB, q, Bool.true_and]
  rw [Bool.eq_iff_iff]; simp; omega
theorem impl_isSquare_ok {a : List (List Int)} (h : smII a) : M.Conv (impl_isSquare a) (sqB a) := by
  refine M.Conv_bind (impl_IsMatrix_ok h) (M.Conv_bind (x := sqB a) (M.Conv_ite (fun q => ?_) (fun q => (M.Conv_ret _).of (by simp [sqB, q]))) (M.Conv_ret _))
  obtain ⟨r, h0, hl⟩ := head_of_mat q
  refine M.Conv_bind (get_row h0) ((M.Conv_ret _).of ?_)
  rw [hl, sqB, q, Bool.true_and]
  rw [Bool.eq_iff_iff]; simp; omega
theorem sq_mat {a : List (List Int)} (h : sqB a = true) : Mat a a.length := by
  simp only [sqB, Bool.and_eq_true, decide_eq_true_eq] at h
  have := matB_mat h.1
  rwa [← h.2] at this
def ConvL {σ ρ : Type} (f : σ → M (σ ⊕ ρ)) (s : σ) (r : ρ) : Prop := ∃ N m0, ∀ n, N ≤ n → ∀ m, m0 ≤ m → M.loopN f n m s = some r
theorem ConvL.conv {σ ρ : Type} {f : σ → M (σ ⊕ ρ)} {s : σ} {r : ρ} (h : ConvL f s r) : M.Conv (M.loop f s) r := by
  obtain ⟨N, m0, h⟩ := h
  exact ⟨max N m0, fun n hn => h n (by omega) n (by omega)⟩
theorem ConvL.step {σ ρ : Type} {f : σ → M (σ ⊕ ρ)} {s s' : σ} {r : ρ} (h1 : M.Conv (f s) (.inl s')) (h : ConvL f s' r) : ConvL f s r := by
  obtain ⟨N, h1⟩ := h1
  obtain ⟨N', m0, h⟩ := h
  refine ⟨max N N', m0 + 1, fun n hn m hm => ?_⟩
  obtain ⟨m, rfl⟩ : ∃ q, m = q + 1 := ⟨m - 1, by omega⟩
  simp only [M.loopN, h1 n (by omega)]
  exact h n (by omega) m (by omega)
theorem ConvL.stop {σ ρ : Type} {f : σ → M (σ ⊕ ρ)} {s : σ} {r : ρ} (h1 : M.Conv (f s) (.inr r)) : ConvL f s r := by
  obtain ⟨N, h1⟩ := h1
  refine ⟨N, 1, fun n hn m hm => ?_⟩
  obtain ⟨m, rfl⟩ : ∃ q, m = q + 1 := ⟨m - 1, by omega⟩
  simp only [M.loopN, h1 n hn]
def gcdF (s1 : Int × Int) : M ((Int × Int) ⊕ (Int × Int)) := M.ite (decide (0 < s1.2)) (M.bind (M.guard (s1.2 != 0)) (fun _ => M.ret (.inl (s1.2, (s1.1.tmod s1.2))))) (M.ret (.inr (s1.1, s1.2)))
theorem gcd_loop : ∀ (m : Nat) (a b : Int), b.toNat < m → 0 ≤ a → 0 ≤ b → ∃ d, ConvL gcdF (a, b) (d, 0) ∧ 0 ≤ d ∧ (0 < a ∨ 0 < b → 0 < d)
  | 0, _, _, h, _, _ => by omega
  | m + 1, a, b, h, ha, hb => by
    by_cases h0 : 0 < b
    · have hm : 0 ≤ a.tmod b := Int.tmod_nonneg b ha
      have hl : a.tmod b < b := Int.tmod_lt_of_pos a h0
      obtain ⟨d, k1, k2, k3⟩ := gcd_loop m b (a.tmod b) (by omega) hb hm
      refine ⟨d, ConvL.step (s' := (b, a.tmod b)) ?_ k1, k2, fun _ => k3 (.inl h0)⟩
      exact M.Conv_ite (fun _ => M.Conv_bind (M.Conv_guard (by simp; omega)) (M.Conv_ret _)) (fun q => by have := of_decide_eq_false q; simp only at this; omega)
    · obtain rfl : b = 0 := by omega
      exact ⟨a, ConvL.stop (M.Conv_ite (fun q => by have := of_decide_eq_true q; simp only at this; omega) (fun _ => M.Conv_ret _)), ha, fun h => by omega⟩
theorem divisor_same {a b : Int} (ha : -9000000000000000000 ≤ a ∧ a ≤ 9000000000000000000) (hb : 0 < b ∧ b ≤ 9000000000000000000) : ∃ d, 0 < d ∧ M.Conv (spec_l01Divisor a b) d ∧ ∀ x, M.Conv (impl_absOf a) x → M.Conv (impl_divisorOf x b) d := by
  have e1 : mx a (w64 (0 - a)) = (a.natAbs : Int) := by rw [w64_eq _ (by omega), mx_eq]; omega
  have e2 : mx b (w64 (0 - b)) = b := by rw [w64_eq _ (by omega), mx_eq]; omega
  obtain ⟨d, k1, _, k3⟩ := gcd_loop _ (a.natAbs : Int) b (Nat.lt_succ_self _) (by omega) (by omega)
  refine ⟨d, k3 (.inr hb.1), ?_, fun x hx => ?_⟩
  · unfold spec_l01Divisor
    rw [e1, e2]
    exact M.Conv_bind k1.conv (M.Conv_ret _)
  · have : M.Conv (impl_absOf a) (a.natAbs : Int) := M.Conv_ite (fun q => by have := of_decide_eq_true q; exact (M.Conv_ret _).of (by rw [w64_eq _ (by omega)]; omega)) (fun q => by have := of_decide_eq_false q; exact (M.Conv_ret _).of (by omega))
    obtain rfl := hx.unique this
    exact M.Conv_bind k1.conv (M.Conv_ret _)
theorem absOf_conv (a : Int) : ∃ x, M.Conv (impl_absOf a) x := by
  unfold impl_absOf
  cases h : decide (a < 0)
  · exact ⟨_, M.Conv_ret _⟩
  · exact ⟨_, M.Conv_ret _⟩
theorem ratio_same {num den : Int} (hn : -4000000 ≤ num ∧ num ≤ 4000000) (hd : 0 < den ∧ den ≤ 4000000) : Two (spec_l01Ratio num den) (impl_ratioOf num den) (fun _ => True) := by
  unfold spec_l01Ratio impl_ratioOf
  have h0 : M.Conv (M.ite (decide (den < 0)) (M.ret ((w64 (0 - num)), (w64 (0 - den)))) (M.ret (num, den))) (num, den) := M.Conv_ite (fun q => by have := of_decide_eq_true q; omega) (fun _ => M.Conv_ret _)
  refine Two.bindC h0 h0 ?_
  obtain ⟨d, d0, k1, k2⟩ := divisor_same (a := num) (b := den) (by omega) (by omega)
  obtain ⟨x, hx⟩ := absOf_conv num
  have hg : (d != 0) = true := by simp; omega
  exact Two.right hx (Two.bindC k1 (k2 x hx) (Two.bindC (M.Conv_guard hg) (M.Conv_guard hg) (Two.bindC (M.Conv_guard hg) (M.Conv_guard hg) (Two.ret _ trivial))))
theorem isRatio_same (r : TRatio) : Two (spec_IsRatio r) (impl_IsRatio r) (fun _ => True) := by
  unfold spec_IsRatio impl_IsRatio
  refine Two.bindC (spec_l01Finite_ok _) (impl_isFinite_ok _) ?_
  refine Two.bind (P := fun b => b = true → finB r.Num = true ∧ 1 ≤ r.Den ∧ r.Den ≤ 1000000) (Two.ite (fun q => ?_) (fun _ => Two.ret _ (by simp))) (fun b hb => ?_)
  · exact Two.bindC (spec_l01In_ok _ _ _) (impl_within_ok _ _ _) (Two.ret _ (fun h => by simp only [Bool.and_eq_true, decide_eq_true_eq] at h; exact ⟨q, h⟩))
  · refine Two.bind (P := fun _ => True) (Two.ite (fun q => ?_) (fun _ => Two.ret _ trivial)) (fun x _ => Two.ret _ trivial)
    obtain ⟨h1, h2, h3⟩ := hb q
    have bn := finB_bd h1
    obtain ⟨d, d0, k1, k2⟩ := divisor_same (a := r.Num) (b := r.Den) (by omega) (by omega)
    obtain ⟨x, hx⟩ := absOf_conv r.Num
    exact Two.right hx (Two.bindC k1 (k2 x hx) (Two.ret _ trivial))
def entA (a : List (List Int)) (i j : Nat) : Int := (((a[i]?).getD [])[j]?).getD 0
/-- an entry for p rows: no assignment, or a weight and a number of them -/
def EntP (p : Nat) (e : Int × Int) : Prop := e = (-1000000000000000, 0) ∨ (-(1000000 * (p : Int)) ≤ e.1 ∧ e.1 ≤ 1000000 * p ∧ 1 ≤ e.2 ∧ e.2 ≤ 10 ^ p)
theorem ent_val {a : List (List Int)} {n i j : Nat} (hm : Mat a n) (hi : i < a.length) (hj : j < n) : M.Conv (M.idx a (i : Int)) a[i] ∧ M.Conv (M.idx a[i] (j : Int)) (entA a i j) ∧ valB (entA a i j) = true := by
  have hr : a[i]? = some a[i] := List.getElem?_eq_getElem hi
  obtain ⟨g1, g2⟩ := hm.get hr hj
  have e : entA a i j = (a[i][j]?).getD 0 := by simp only [entA, hr, Option.getD_some]
  rw [e]
  exact ⟨get_row hr, g1, g2⟩
theorem EntP.weight {p : Nat} {e : Int × Int} (h : EntP p e) (hp : p ≤ 9) : e.1 = -1000000000000000 ∨ (-10000000 ≤ e.1 ∧ e.1 ≤ 10000000) := by
  rcases h with rfl | ⟨h1, h2, _⟩
  · exact .inl rfl
  · exact .inr ⟨by omega, by omega⟩
theorem conv_up {σ ρ : Type} {f : σ → M (σ ⊕ ρ)} {r : ρ} (st : Nat → σ) {n k0 : Nat} (hk : k0 ≤ n) (h : ∀ k, k0 ≤ k → k < n → M.Conv (f (st k)) (.inl (st (k + 1)))) (hs : M.Conv (f (st n)) (.inr r)) : M.Conv (M.loop f (st k0)) r := by
  have H : ∀ (d k : Nat), k0 ≤ k → k + d = n → ConvL f (st k) r := by
    intro d
    induction d with
    | zero => intro k _ e; obtain rfl : k = n := by omega
              exact ConvL.stop hs
    | succ d ih => intro k h1 e; exact ConvL.step (h k h1 (by omega)) (ih (k + 1) (by omega) (by omega))
  exact (H (n - k0) k0 (Nat.le_refl _) (by omega)).conv
theorem conv_up0 {σ ρ : Type} {f : σ → M (σ ⊕ ρ)} {r : ρ} {s0 : σ} (st : Nat → σ) {n k0 : Nat} (e : s0 = st k0) (hk : k0 ≤ n) (h : ∀ k, k0 ≤ k → k < n → M.Conv (f (st k)) (.inl (st (k + 1)))) (hs : M.Conv (f (st n)) (.inr r)) : M.Conv (M.loop f s0) r := by
  subst e; exact conv_up st hk h hs

def tab {α : Type} (n : Nat) (h : Nat → α) : List α := (List.range n).map h
theorem tab_len {α : Type} (n : Nat) (h : Nat → α) : (tab n h).length = n := by simp [tab]
theorem tab_get {α : Type} {n i : Nat} {h : Nat → α} (hi : i < n) : (tab n h)[i]? = some (h i) := by simp [tab, List.getElem?_range hi]
theorem tab_none {α : Type} {n i : Nat} {h : Nat → α} (hi : n ≤ i) : (tab n h)[i]? = none := List.getElem?_eq_none (by rw [tab_len]; exact hi)
theorem tab_ext {α : Type} {n : Nat} {h : Nat → α} {l : List α} (hl : l.length = n) (e : ∀ i, i < n → l[i]? = some (h i)) : l = tab n h := by
  apply List.ext_getElem?
  intro i
  by_cases hi : i < n
  · rw [e i hi, tab_get hi]
  · rw [tab_none (by omega), List.getElem?_eq_none (by omega)]
theorem tab_congr {α : Type} {n : Nat} {h g : Nat → α} (e : ∀ i, i < n → h i = g i) : tab n h = tab n g := by
  refine tab_ext (tab_len _ _) fun i hi => ?_
  rw [tab_get hi, e i hi]
theorem tab_set {α : Type} {n i : Nat} {h g : Nat → α} {v : α} (hv : v = g i) (e : ∀ p, p < n → p ≠ i → h p = g p) : (tab n h).set i v = tab n g := by
  refine tab_ext (by rw [List.length_set, tab_len]) fun p hp => ?_
  rw [List.getElem?_set]
  by_cases q : i = p
  · subst q; rw [if_pos rfl, if_pos (by rw [tab_len]; exact hp), hv]
  · rw [if_neg q, tab_get hp, e p hp (fun c => q c.symm)]
theorem tab_rep {α : Type} (n : Nat) (z : α) : List.replicate n z = tab n (fun _ => z) := tab_ext (by simp) fun i hi => by rw [List.getElem?_replicate, if_pos hi]
theorem tab_snoc {α : Type} (n : Nat) (h : Nat → α) : tab n h ++ [h n] = tab (n + 1) h := by simp [tab, List.range_succ]
theorem idx_tab {α : Type} {n i : Nat} {h : Nat → α} (hi : i < n) : M.Conv (M.idx (tab n h) (i : Int)) (h i) := M.Conv_idx (tab_get hi)
theorem upd_tab {α : Type} {n i : Nat} {h g : Nat → α} {v : α} (hi : i < n) (hv : v = g i) (e : ∀ p, p < n → p ≠ i → h p = g p) : M.Conv (M.upd (tab n h) (i : Int) v) (tab n g) :=
  (M.Conv_upd (by rw [tab_len]; exact hi)).of (tab_set hv e)
def matF (m n : Nat) (f : Nat → Nat → Int) : List (List Int) := tab m fun i => tab n (f i)
theorem matF_len (m n : Nat) (f : Nat → Nat → Int) : (matF m n f).length = m := tab_len _ _
theorem matF_congr {m n : Nat} {f g : Nat → Nat → Int} (e : ∀ i j, i < m → j < n → f i j = g i j) : matF m n f = matF m n g := tab_congr fun i hi => tab_congr fun j hj => e i j hi hj
structure Shp (a : List (List Int)) (w : Nat) : Prop where
  rows : 1 ≤ a.length ∧ a.length ≤ 10
  cols : 1 ≤ w ∧ w ≤ 10
  row : ∀ r ∈ a, r.length = w
theorem Mat.shp {a : List (List Int)} {w : Nat} (hm : Mat a w) : Shp a w := ⟨hm.rows, hm.cols, fun r hr => (hm.row r hr).1⟩
theorem mat_eq {a : List (List Int)} {w : Nat} (hm : Shp a w) : a = matF a.length w (entA a) := by
  refine tab_ext rfl fun i hi => ?_
  have hr : a[i]? = some a[i] := List.getElem?_eq_getElem hi
  rw [hr]
  have hl := hm.row _ (List.mem_of_getElem? hr)
  congr 1
  refine tab_ext hl fun j hj => ?_
  have : a[i][j]? = some (a[i][j]'(by omega)) := List.getElem?_eq_getElem _
  rw [this]
  simp only [entA, hr, Option.getD_some, this]
theorem entA_matF {m n i j : Nat} {f : Nat → Nat → Int} (hi : i < m) (hj : j < n) : entA (matF m n f) i j = f i j := by
  simp only [entA, matF, tab_get hi, Option.getD_some, tab_get hj]
theorem mat_of {m n : Nat} {f : Nat → Nat → Int} (h1 : 1 ≤ m ∧ m ≤ 10) (h2 : 1 ≤ n ∧ n ≤ 10) (hv : ∀ i j, i < m → j < n → valB (f i j) = true) : Mat (matF m n f) n := by
  refine ⟨by rw [matF_len]; exact h1, h2, fun r hr => ?_⟩
  simp only [matF, tab, List.mem_map, List.mem_range] at hr
  obtain ⟨i, hi, rfl⟩ := hr
  refine ⟨by simp, fun x hx => ?_⟩
  simp only [List.mem_map, List.mem_range] at hx
  obtain ⟨j, hj, rfl⟩ := hx
  exact hv i j hi hj
theorem shp_of {m n : Nat} {f : Nat → Nat → Int} (h1 : 1 ≤ m ∧ m ≤ 10) (h2 : 1 ≤ n ∧ n ≤ 10) : Shp (matF m n f) n := by
  refine ⟨by rw [matF_len]; exact h1, h2, fun r hr => ?_⟩
  simp only [matF, tab, List.mem_map, List.mem_range] at hr
  obtain ⟨i, hi, rfl⟩ := hr
  simp
theorem ent_read {a : List (List Int)} {w i j : Nat} (hm : Shp a w) (hi : i < a.length) (hj : j < w) : ∃ r, M.Conv (M.idx a (i : Int)) r ∧ r.length = w ∧ M.Conv (M.idx r (j : Int)) (entA a i j) := by
  have hr : a[i]? = some a[i] := List.getElem?_eq_getElem hi
  have hl := hm.row _ (List.mem_of_getElem? hr)
  have h2 : a[i][j]? = some (a[i][j]'(by omega)) := List.getElem?_eq_getElem _
  refine ⟨_, get_row hr, hl, (M.Conv_idx h2).of ?_⟩
  simp only [entA, hr, Option.getD_some, h2]
/-- a matrix filled by a function of its places -/
theorem matrixBy_ok {m n : Nat} (F : Int → Int → M Int) (g : Nat → Nat → Int) (hm : m ≤ 1048576) (hn : n ≤ 1048576) (hF : ∀ i j : Nat, i < m → j < n → M.Conv (F i j) (g i j)) :
    M.Conv (M.bind (M.make (m : Int) []) (fun l1 => M.bind (M.forI 0 (l1.length : Int) (fun s => s) (fun i1 => (fun (s1 : (List (List Int))) => M.bind (M.make (n : Int) 0) (fun l2 => M.bind (M.idx s1 i1) (fun x2 => M.bind (M.upd s1 i1 l2) (fun l3 => M.bind (M.idx l3 i1) (fun x3 => M.bind (M.forI 0 (x3.length : Int) (fun s => s) (fun i2 => (fun (s2 : (List (List Int))) => M.bind (M.idx s2 i1) (fun x5 => M.bind (F i1 i2) (fun x6 => M.bind (M.idx x5 i2) (fun x7 => M.bind (M.upd x5 i2 x6) (fun l4 => M.ret (.inl (s2.set i1.toNat l4)))))))) l3) (fun x4 => M.ret (.inl x4)))))))) l1) (fun x1 => M.ret x1))) (matF m n g) := by
  have e0 : List.replicate m ([] : List Int) = tab m (fun p => bif decide (p < 0) then tab n (g p) else []) := by
    rw [tab_rep]; exact tab_congr fun i _ => by simp
  refine M.Conv_bind ((M.Conv_make (by omega) (by omega)).of (r' := tab m (fun p => bif decide (p < 0) then tab n (g p) else [])) (by rw [Int.toNat_natCast, e0])) ?_
  rw [tab_len]
  refine M.Conv_bind (x := matF m n g) ((Conv_forV (fun i => tab m (fun p => bif decide (p < i) then tab n (g p) else [])) (by omega) fun i hi => ?_).of (tab_congr fun p hp => by rw [decide_eq_true hp]; rfl)) (M.Conv_ret _)
  refine M.Conv_bind ((M.Conv_make (by omega) (by omega)).of (r' := tab n (fun _ => 0)) (by rw [Int.toNat_natCast, tab_rep])) ?_
  refine M.Conv_bind (idx_tab hi) (M.Conv_bind (x := tab m (fun p => bif p == i then tab n (fun q => bif decide (q < 0) then g i q else 0) else bif decide (p < i) then tab n (g p) else [])) (upd_tab hi ?_ ?_) ?_)
  · simp
  · intro p hp hne
    rw [show (p == i) = false by simpa using hne]; rfl
  · refine M.Conv_bind (idx_tab hi) ?_
    rw [beq_self_eq_true, cond_true, tab_len]
    refine M.Conv_bind (x := tab m (fun p => bif decide (p < i + 1) then tab n (g p) else [])) ((Conv_forV (fun j => tab m (fun p => bif p == i then tab n (fun q => bif decide (q < j) then g i q else 0) else bif decide (p < i) then tab n (g p) else [])) (by omega) fun j hj => ?_).of ?_) (M.Conv_ret _)
    · refine M.Conv_bind (idx_tab hi) ?_
      rw [beq_self_eq_true, cond_true]
      refine M.Conv_bind (hF i j hi hj) (M.Conv_bind (idx_tab hj) (M.Conv_bind (x := tab n (fun q => bif decide (q < j + 1) then g i q else 0)) (upd_tab hj ?_ ?_) ((M.Conv_ret _).of (congrArg Sum.inl ?_))))
      · simp
      · intro q hq hne
        congr 1
        rw [Bool.eq_iff_iff]; simp; omega
      · rw [Int.toNat_natCast]
        refine tab_set ?_ ?_
        · simp
        · intro p hp hne
          rw [show (p == i) = false by simpa using hne]; rfl
    · refine tab_congr fun p hp => ?_
      by_cases e : p = i
      · subst e
        rw [beq_self_eq_true, cond_true, decide_eq_true (by omega)]
        exact tab_congr fun q hq => by rw [decide_eq_true hq]; rfl
      · rw [show (p == i) = false by simpa using e]
        simp only [cond_false]
        congr 1
        rw [Bool.eq_iff_iff]; simp; omega
theorem spec_l02Bottom_ok {m n : Nat} (hm : m ≤ 1048576) (hn : n ≤ 1048576) : M.Conv (spec_l02Bottom (m : Int) (n : Int)) (matF m n fun _ _ => -1000000000000000) := by
  unfold spec_l02Bottom
  refine M.Conv_bind (Conv_forV (fun i => tab i fun _ => tab n fun _ => (-1000000000000000 : Int)) (by omega) fun i hi => ?_) (M.Conv_ret _)
  refine M.Conv_bind (Conv_forV (fun j => tab j fun _ => (-1000000000000000 : Int)) (by omega) fun j hj => ?_) ?_
  · exact M.Conv_bind (M.Conv_app (by simp [tab_len]; omega)) ((M.Conv_ret _).of (congrArg Sum.inl (tab_snoc _ _)))
  · exact M.Conv_bind (M.Conv_app (by simp [tab_len]; omega)) ((M.Conv_ret _).of (congrArg Sum.inl (tab_snoc i _)))
/-- one entry set -/
theorem matF_set {m n i j : Nat} {f g : Nat → Nat → Int} (e : ∀ p q, p < m → q < n → ¬(p = i ∧ q = j) → f p q = g p q) : (matF m n f).set i ((tab n (f i)).set j (g i j)) = matF m n g := by
  by_cases hi : i < m
  · refine tab_set (tab_set rfl fun q hq hne => e i q hi hq (by omega)) fun p hp hne => tab_congr fun q hq => e p q hp hq (by omega)
  · rw [List.set_eq_of_length_le (by rw [matF_len]; omega)]
    exact matF_congr fun p q hp hq => e p q hp hq (by omega)
/-- filled row by row: everything before (i, j) is new -/
def part (g z : Nat → Nat → Int) (i j p q : Nat) : Int := bif decide (p < i) || (decide (p = i) && decide (q < j)) then g p q else z p q
theorem part_row {m n i : Nat} {g z : Nat → Nat → Int} : matF m n (part g z i n) = matF m n (part g z (i + 1) 0) := by
  refine matF_congr fun p q _ hq => ?_
  unfold part
  congr 1
  rw [Bool.eq_iff_iff]; simp; omega
theorem part_zero {m n : Nat} {g z : Nat → Nat → Int} : matF m n (part g z 0 0) = matF m n z := matF_congr fun p q _ _ => by simp [part]
theorem part_all {m n : Nat} {g z : Nat → Nat → Int} : matF m n (part g z m 0) = matF m n g := matF_congr fun p q hp _ => by simp [part, hp]
/-- transposes -/
theorem spec_l02Turn_ok {a : List (List Int)} {w : Nat} (hm : Shp a w) : M.Conv (spec_l02Turn a) (matF w a.length fun i j => entA a j i) := by
  have hrows := hm.rows
  have hcols := hm.cols
  obtain ⟨r0, h0, hl0, _⟩ := ent_read hm (i := 0) (j := 0) (by omega) (by omega)
  refine M.Conv_bind h0 ?_
  rw [hl0]
  refine M.Conv_bind (spec_l02Bottom_ok (by omega) (by omega)) ?_
  refine M.Conv_bind (x := matF w a.length fun i j => entA a j i) ?_ (M.Conv_ret _)
  refine ((Conv_forV (fun i => matF w a.length fun p q => bif decide (q < i) then entA a q p else -1000000000000000) (by omega) fun i hi => ?_) |> fun h => h.of ?_)
  · refine M.Conv_bind (x := (matF w a.length (fun p q => bif decide (q < i + 1) then entA a q p else -1000000000000000), (w : Int))) ?_ (M.Conv_ret _)
    refine conv_up0 (fun k => (matF w a.length (fun p q => bif decide (q < i) || (decide (q = i) && decide (p < k)) then entA a q p else -1000000000000000), (k : Int))) (n := w) (k0 := 0) ?_ (by omega) (fun k _ hk => ?_) ?_
    · refine Prod.ext (matF_congr fun p q _ _ => ?_) rfl
      congr 1
      simp
    · obtain ⟨r, h1, hl, h2⟩ := ent_read hm hi hk
      refine M.Conv_bind h1 ?_
      rw [hl]
      refine M.Conv_ite (fun _ => ?_) (fun t => by have := of_decide_eq_false t; simp only at this; omega)
      refine M.Conv_bind (idx_tab hk) (M.Conv_bind h1 (M.Conv_bind h2 (M.Conv_bind (idx_tab hi) (M.Conv_bind (M.Conv_upd (by rw [tab_len]; exact hi)) ((M.Conv_ret _).of ?_)))))
      refine congrArg Sum.inl (Prod.ext ?_ (by simp only; rw [w64_eq _ (by omega)]; omega))
      simp only [Int.toNat_natCast]
      refine Eq.trans (congrArg _ (congrArg (List.set _ i) ?_)) (matF_set (g := fun p q => bif decide (q < i) || (decide (q = i) && decide (p < k + 1)) then entA a q p else -1000000000000000) fun p q _ _ h => ?_)
      · simp
      · congr 1
        rw [Bool.eq_iff_iff]; simp; omega
    · refine M.Conv_bind (get_row (List.getElem?_eq_getElem hi)) ?_
      have hl := hm.row _ (List.getElem_mem hi)
      rw [hl]
      refine M.Conv_ite (fun t => by have := of_decide_eq_true t; simp only at this; omega) (fun _ => (M.Conv_ret _).of (congrArg Sum.inr (Prod.ext (matF_congr fun p q hp _ => ?_) rfl)))
      congr 1
      rw [Bool.eq_iff_iff]; simp; omega
  · exact matF_congr fun p q _ hq => by rw [decide_eq_true hq]; rfl
theorem impl_transposed_ok {a : List (List Int)} {w : Nat} (hm : Shp a w) : M.Conv (impl_transposed a) (matF w a.length fun i j => entA a j i) := by
  have hrows := hm.rows
  have hcols := hm.cols
  obtain ⟨r0, h0, hl0, _⟩ := ent_read hm (i := 0) (j := 0) (by omega) (by omega)
  refine M.Conv_bind h0 ?_
  rw [hl0]
  refine M.Conv_bind (matrixBy_ok (fun i j => impl_transposed_1 i j a) (fun i j => entA a j i) (by omega) (by omega) fun i j hi hj => ?_) (M.Conv_ret _)
  obtain ⟨r, h1, hl, h2⟩ := ent_read hm hj hi
  exact M.Conv_bind h1 (M.Conv_bind h2 (M.Conv_ret _))
theorem matB_shp {a : List (List Int)} {w : Nat} (h : Shp a w) : matB a = a.all fun r => r.all valB := by
  have h1 := h.rows
  have h2 := h.cols
  have hw : widthN a = w := by
    unfold widthN
    cases a with
    | nil => simp at h1
    | cons r rs => exact h.row r (by simp)
  unfold matB
  rw [hw, decide_eq_true h1.1, decide_eq_true h1.2, decide_eq_true h2.1, decide_eq_true h2.2]
  simp only [Bool.true_and]
  rw [Bool.eq_iff_iff, List.all_eq_true, List.all_eq_true]
  refine ⟨fun H r hr => ?_, fun H r hr => ?_⟩
  · have := H r hr; simp only [Bool.and_eq_true] at this; exact this.2
  · rw [decide_eq_true (h.row r hr), Bool.true_and]; exact H r hr
theorem Shp.sm {a : List (List Int)} {w : Nat} (h : Shp a w) : smII a := ⟨by have := h.rows; omega, fun r hr => by have := h.row r hr; have := h.cols; omega⟩
theorem impl_checkedMatrix_ok {a : List (List Int)} {w : Nat} (h : Shp a w) : M.Conv (impl_checkedMatrix a) (bif (a.all fun r => r.all valB) then (a, 0) else ([], 3)) := by
  have h1 := h.rows
  have h2 := h.cols
  refine M.Conv_bind (contains_ok (fun r => !(r.all valB)) (by omega) fun i r hr => ?_) ?_
  · have hl := h.row r (List.mem_of_getElem? hr)
    refine M.Conv_bind (get_row hr) (M.Conv_bind (M.Conv_bind (impl_areValues_ok (by omega)) (M.Conv_ret _)) ?_)
    cases (!(r.all valB)) <;> exact M.Conv_ret _
  · have e : (a.any fun r => !(r.all valB)) = !(a.all fun r => r.all valB) := by rw [← any_not, Bool.not_not]
    rw [e]
    cases (a.all fun r => r.all valB)
    · exact M.Conv_ite (fun _ => M.Conv_ret _) (fun t => by simp at t)
    · exact M.Conv_ite (fun t => by simp at t) (fun _ => M.Conv_ret _)
def colL (b : List (List Int)) (i : Nat) : List Int := tab b.length fun j => entA b j i
theorem colL_vec {b : List (List Int)} {w i : Nat} (hm : Mat b w) (hi : i < w) : vecB (colL b i) = true ∧ (colL b i).length = b.length ∧ ∀ x ∈ colL b i, valB x = true := by
  have hv : ∀ x ∈ colL b i, valB x = true := fun x hx => by
    simp only [colL, tab, List.mem_map, List.mem_range] at hx
    obtain ⟨j, hj, rfl⟩ := hx
    exact (ent_val hm hj hi).2.2
  have hl : (colL b i).length = b.length := tab_len _ _
  refine ⟨?_, hl, hv⟩
  have := hm.rows
  simp only [vecB, Bool.and_eq_true, decide_eq_true_eq, List.all_eq_true, hl]
  exact ⟨⟨by omega, by omega⟩, hv⟩
theorem Conv_or {b v : Bool} {m : M Bool} (h : b = false → M.Conv m v) : M.Conv (M.ite b (M.ret true) m) (b || v) := by
  cases b with
  | true => exact M.Conv_ite (fun _ => M.Conv_ret _) (fun t => by simp at t)
  | false => exact M.Conv_ite (fun t => by simp at t) (fun _ => h rfl)
def Rel {α β : Type} (m : M α) (m' : M β) (Q : α → β → Prop) : Prop := ∃ r r', M.Conv m r ∧ M.Conv m' r' ∧ Q r r'
theorem Rel.of {α β : Type} {m : M α} {m' : M β} {Q : α → β → Prop} {r : α} {r' : β} (h : M.Conv m r) (h' : M.Conv m' r') (q : Q r r') : Rel m m' Q := ⟨r, r', h, h', q⟩
theorem Rel.bind {α β γ δ : Type} {m : M α} {m' : M β} {f : α → M γ} {f' : β → M δ} {P : α → β → Prop} {Q : γ → δ → Prop} (h : Rel m m' P) (g : ∀ x x', P x x' → Rel (f x) (f' x') Q) : Rel (M.bind m f) (M.bind m' f') Q := by
  obtain ⟨x, x', h1, h2, p⟩ := h
  obtain ⟨r, r', g1, g2, q⟩ := g x x' p
  exact ⟨r, r', M.Conv_bind h1 g1, M.Conv_bind h2 g2, q⟩
theorem Rel.left {α γ δ : Type} {m : M α} {f : α → M γ} {m' : M δ} {Q : γ → δ → Prop} {x : α} (h : M.Conv m x) (g : Rel (f x) m' Q) : Rel (M.bind m f) m' Q := by
  obtain ⟨r, r', g1, g2, q⟩ := g
  exact ⟨r, r', M.Conv_bind h g1, g2, q⟩
theorem Rel.right {α γ δ : Type} {m : M α} {f : α → M γ} {m' : M δ} {Q : δ → γ → Prop} {x : α} (h : M.Conv m x) (g : Rel m' (f x) Q) : Rel m' (M.bind m f) Q := by
  obtain ⟨r, r', g1, g2, q⟩ := g
  exact ⟨r, r', g1, M.Conv_bind h g2, q⟩
theorem Rel.two {α : Type} {m m' : M α} {P : α → Prop} (h : Rel m m' fun x y => x = y ∧ P x) : Two m m' P := by
  obtain ⟨r, r', h1, h2, rfl, p⟩ := h
  exact ⟨r, h1, h2, p⟩
theorem Rel.mono {α β : Type} {m : M α} {m' : M β} {P Q : α → β → Prop} (h : Rel m m' P) (g : ∀ x y, P x y → Q x y) : Rel m m' Q := by
  obtain ⟨r, r', h1, h2, p⟩ := h
  exact ⟨r, r', h1, h2, g _ _ p⟩
theorem Rel.iteL {α β : Type} {b : Bool} {x y : M α} {m' : M β} {Q : α → β → Prop} (h1 : b = true → Rel x m' Q) (h2 : b = false → Rel y m' Q) : Rel (M.ite b x y) m' Q := by
  cases b
  · obtain ⟨r, r', g1, g2, q⟩ := h2 rfl
    exact ⟨r, r', M.Conv_ite (fun t => by simp at t) (fun _ => g1), g2, q⟩
  · obtain ⟨r, r', g1, g2, q⟩ := h1 rfl
    exact ⟨r, r', M.Conv_ite (fun _ => g1) (fun t => by simp at t), g2, q⟩
theorem Rel.iteR {α β : Type} {b : Bool} {x y : M β} {m' : M α} {Q : α → β → Prop} (h1 : b = true → Rel m' x Q) (h2 : b = false → Rel m' y Q) : Rel m' (M.ite b x y) Q := by
  cases b
  · obtain ⟨r, r', g1, g2, q⟩ := h2 rfl
    exact ⟨r, r', g1, M.Conv_ite (fun t => by simp at t) (fun _ => g2), q⟩
  · obtain ⟨r, r', g1, g2, q⟩ := h1 rfl
    exact ⟨r, r', g1, M.Conv_ite (fun _ => g2) (fun t => by simp at t), q⟩
theorem Rel.ite {α β : Type} {b b' : Bool} {x y : M α} {x' y' : M β} {Q : α → β → Prop} (e : b = b') (h1 : b = true → Rel x x' Q) (h2 : b = false → Rel y y' Q) : Rel (M.ite b x y) (M.ite b' x' y') Q := by
  subst e
  exact Rel.iteL (fun t => Rel.iteR (fun _ => h1 t) (fun t' => by rw [t] at t'; cases t')) (fun t => Rel.iteR (fun t' => by rw [t] at t'; cases t') (fun _ => h2 t))
theorem Rel.ret {α β : Type} {x : α} {y : β} {Q : α → β → Prop} (q : Q x y) : Rel (M.ret x) (M.ret y) Q := ⟨x, y, M.Conv_ret _, M.Conv_ret _, q⟩
/-- one round of two loops: both go on, or both stop -/
def Round {σ σ' ρ ρ' : Type} (R : σ → σ' → Prop) (Q : ρ → ρ' → Prop) (y : σ ⊕ ρ) (y' : σ' ⊕ ρ') : Prop := (∃ t t', y = .inl t ∧ y' = .inl t' ∧ R t t') ∨ (∃ r r', y = .inr r ∧ y' = .inr r' ∧ Q r r')
theorem Round.on {σ σ' ρ ρ' : Type} {R : σ → σ' → Prop} {Q : ρ → ρ' → Prop} {t : σ} {t' : σ'} (h : R t t') : Round R Q (.inl t) (.inl t') := .inl ⟨t, t', rfl, rfl, h⟩
theorem Round.off {σ σ' ρ ρ' : Type} {R : σ → σ' → Prop} {Q : ρ → ρ' → Prop} {r : ρ} {r' : ρ'} (h : Q r r') : Round R Q (.inr r : σ ⊕ ρ) (.inr r' : σ' ⊕ ρ') := .inr ⟨r, r', rfl, rfl, h⟩
theorem Rel.for {σ σ' ρ ρ' : Type} {n : Nat} {f : Int → σ → M (σ ⊕ ρ)} {f' : Int → σ' → M (σ' ⊕ ρ')} {fin : σ → ρ} {fin' : σ' → ρ'} {s : σ} {s' : σ'} {Q : ρ → ρ' → Prop} (R : Nat → σ → σ' → Prop) (hn : n ≤ 9223372036854775807) (h0 : R 0 s s')
    (step : ∀ (i : Nat) t t', i < n → R i t t' → Rel (f i t) (f' i t') (Round (R (i + 1)) Q)) (stop : ∀ t t', R n t t' → Q (fin t) (fin' t')) : Rel (M.forI 0 (n : Int) fin f s) (M.forI 0 (n : Int) fin' f' s') Q := by
  have H : ∀ (d i : Nat) t t', i + d = n → R i t t' → ∃ r r', (∃ N, ∀ m, N ≤ m → M.forN (n : Int) fin f m d (i : Int) t = some r) ∧ (∃ N, ∀ m, N ≤ m → M.forN (n : Int) fin' f' m d (i : Int) t' = some r') ∧ Q r r' := by
    intro d
    induction d with
    | zero =>
      intro i t t' e hR
      obtain rfl : i = n := by omega
      exact ⟨fin t, fin' t', ⟨0, fun m _ => by simp [M.forN]⟩, ⟨0, fun m _ => by simp [M.forN]⟩, stop t t' hR⟩
    | succ d ih =>
      intro i t t' e hR
      have hlt : (i : Int) < n := by omega
      obtain ⟨y, y', ⟨N, hy⟩, ⟨N', hy'⟩, hc⟩ := step i t t' (by omega) hR
      rcases hc with ⟨u, u', rfl, rfl, hR⟩ | ⟨r, r', rfl, rfl, hq⟩
      · obtain ⟨r, r', ⟨K, hr⟩, ⟨K', hr'⟩, hq⟩ := ih (i + 1) u u' (by omega) hR
        rw [Int.natCast_add] at hr hr'
        refine ⟨r, r', ⟨max N K, fun m hm => ?_⟩, ⟨max N' K', fun m hm => ?_⟩, hq⟩
        · simp [M.forN, hlt, hy m (by omega)]; exact hr m (by omega)
        · simp [M.forN, hlt, hy' m (by omega)]; exact hr' m (by omega)
      · exact ⟨r, r', ⟨N, fun m hm => by simp [M.forN, hlt, hy m hm]⟩, ⟨N', fun m hm => by simp [M.forN, hlt, hy' m hm]⟩, hq⟩
  obtain ⟨r, r', ⟨N, h1⟩, ⟨N', h2⟩, q⟩ := H n 0 s s' (by omega) h0
  refine ⟨r, r', ⟨N, fun m hm => ?_⟩, ⟨N', fun m hm => ?_⟩, q⟩
  · have := h1 m hm; have hn' : (n : Int) ≤ 9223372036854775807 := by omega
    simp [M.forI, hn']; exact this
  · have := h2 m hm; have hn' : (n : Int) ≤ 9223372036854775807 := by omega
    simp [M.forI, hn']; exact this
/-- a loop with a round count on the left, any loop on the right -/
theorem Rel.loop {σ σ' ρ ρ' : Type} {f : σ → M (σ ⊕ ρ)} {f' : σ' → M (σ' ⊕ ρ')} {s : σ} {s' : σ'} {Q : ρ → ρ' → Prop} (R : σ → σ' → Prop) (μ : σ → Nat) (h0 : R s s')
    (step : ∀ t t', R t t' → Rel (f t) (f' t') (Round (fun u u' => R u u' ∧ μ u < μ t) Q)) : Rel (M.loop f s) (M.loop f' s') Q := by
  have H : ∀ (d : Nat) t t', μ t < d → R t t' → ∃ r r', ConvL f t r ∧ ConvL f' t' r' ∧ Q r r' := by
    intro d
    induction d with
    | zero => intro t t' h; omega
    | succ d ih =>
      intro t t' h hR
      obtain ⟨y, y', hy, hy', hc⟩ := step t t' hR
      rcases hc with ⟨u, u', rfl, rfl, hR, hlt⟩ | ⟨r, r', rfl, rfl, hq⟩
      · obtain ⟨r, r', k1, k2, q⟩ := ih u u' (by omega) hR
        exact ⟨r, r', k1.step hy, k2.step hy', q⟩
      · exact ⟨r, r', ConvL.stop hy, ConvL.stop hy', hq⟩
  obtain ⟨r, r', h1, h2, q⟩ := H (μ s + 1) s s' (by omega) h0
  exact ⟨r, r', h1.conv, h2.conv, q⟩

theorem Conv_check {ρ : Type} {n lo : Nat} {f : Int → Unit → M (Unit ⊕ (Unit ⊕ ρ))} (P : Nat → Prop) (v : ρ) (hn : n ≤ 9223372036854775807)
    (h : ∀ i : Nat, lo ≤ i → i < n → (P i ∧ M.Conv (f i ()) (.inl ())) ∨ (¬ P i ∧ M.Conv (f i ()) (.inr (.inr v)))) :
    ((∀ i, lo ≤ i → i < n → P i) ∧ M.Conv (M.forI (lo : Int) (n : Int) (fun s => .inl s) f ()) (.inl ())) ∨ ((∃ i, lo ≤ i ∧ i < n ∧ ¬ P i) ∧ M.Conv (M.forI (lo : Int) (n : Int) (fun s => .inl s) f ()) (.inr v)) := by
  have H : M.TC (M.forI (lo : Int) (n : Int) (fun s => .inl s) f ()) (fun r => ((∀ i, lo ≤ i → i < n → P i) ∧ r = .inl ()) ∨ ((∃ i, lo ≤ i ∧ i < n ∧ ¬ P i) ∧ r = .inr v)) := by
    refine M.TC_for (fun i _ => ∀ k : Nat, lo ≤ k → (k : Int) < i → P k) () (by omega) (by omega) (fun k h1 h2 => by omega) (fun i s h1 h2 hI => ?_) (fun i s hi hI => ?_)
    · obtain ⟨k, rfl⟩ : ∃ k : Nat, i = (k : Int) := ⟨i.toNat, by omega⟩
      rcases h k (by omega) (by omega) with ⟨hp, hc⟩ | ⟨hp, hc⟩
      · refine hc.tc (.inl ⟨(), rfl, fun q h3 h4 => ?_⟩)
        by_cases e : q = k
        · subst e; exact hp
        · exact hI q h3 (by omega)
      · exact hc.tc (.inr ⟨.inr v, rfl, .inr ⟨⟨k, by omega, by omega, hp⟩, rfl⟩⟩)
    · rcases hi with rfl | ⟨rfl, hle⟩
      · exact .inl ⟨fun q h1 h2 => hI q h1 (by omega), rfl⟩
      · exact .inl ⟨fun q h1 h2 => by omega, rfl⟩
  obtain ⟨r, hr, ⟨h1, rfl⟩ | ⟨h1, rfl⟩⟩ := H
  · exact .inl ⟨h1, hr⟩
  · exact .inr ⟨h1, hr⟩
def nd (l : List Int) (i : Nat) : Int := (l[i]?).getD 0
theorem nd_read {l : List Int} {i : Nat} (h : i < l.length) : M.Conv (M.idx l (i : Int)) (nd l i) := by
  have : l[i]? = some (l[i]'h) := List.getElem?_eq_getElem _
  refine M.Conv_idx ?_
  unfold nd; rw [this]; rfl
def OkNodes (n : Nat) (l : List Int) : Prop := ∀ i, i < l.length → (0 ≤ nd l i ∧ nd l i ≤ (n : Int) - 1) ∧ (0 < i → nd l (i - 1) < nd l i)
theorem OkNodes.len {n : Nat} {l : List Int} (h : OkNodes n l) : l.length ≤ n := by
  have key : ∀ i, i < l.length → (i : Int) ≤ nd l i := by
    intro i
    induction i with
    | zero => intro hi; have := (h 0 hi).1; omega
    | succ i ih => intro hi; have := (h (i + 1) hi).2 (by omega); have := ih (by omega); simp only [Nat.add_sub_cancel] at *; omega
  by_cases e : l.length = 0
  · omega
  · have := key (l.length - 1) (by omega)
    have := (h (l.length - 1) (by omega)).1
    omega
theorem get_row' {l : List Int} {i : Nat} {x : Int} (h : l[i]? = some x) : M.Conv (M.idx l (i : Int)) x := M.Conv_idx h
structure ByC (code : List Int) : Prop where
  len : code.length ≤ 4096
  byte : ∀ x ∈ code, 0 ≤ x ∧ x ≤ 255
structure Src (code : List Int) (s : TL01source) : Prop where
  code_ : s.code = code
  lo : 0 ≤ s.at_
  hi : s.at_ ≤ code.length
  seed : 0 ≤ s.seed ∧ s.seed < 2147483647
theorem Src.mk' {code : List Int} {s : TL01source} {c : List Int} (h : Src code s) (hc : c = code) : Src code ⟨c, s.at_, s.seed⟩ := ⟨hc, h.lo, h.hi, h.seed⟩
theorem tmod_in {x n : Int} (hx : 0 ≤ x) (hn : 0 < n) : 0 ≤ x.tmod n ∧ x.tmod n < n := ⟨Int.tmod_nonneg n hx, Int.tmod_lt_of_pos x hn⟩
theorem tdiv_in {x : Int} (hx : 0 ≤ x) (h : x < 2147483647) : 0 ≤ x.tdiv 31 ∧ x.tdiv 31 < 2147483647 := by
  rw [Int.tdiv_eq_ediv_of_nonneg hx]; omega
theorem from_ok {code : List Int} (hc : ByC code) : M.TC (spec_l01From code) (Src code) := by
  have hl := hc.len
  unfold spec_l01From
  refine M.TC_bind (Mid := fun x => 0 ≤ x.1 ∧ x.1 < 2147483647) (M.TC_loop (fun (s : Int × Int) => (0 ≤ s.1 ∧ s.1 < 2147483647) ∧ 0 ≤ s.2 ∧ s.2 ≤ 4096) (fun s => (4096 - s.2).toNat) (61403, 0) (by simp) fun s hs => ?_) fun x hx => M.TC_ret ⟨rfl, by simp, by simp, hx⟩
  refine M.TC_ite (fun t => ?_) (fun _ => M.TC_ret (.inr ⟨_, rfl, hs.1⟩))
  simp only [Bool.and_eq_true, decide_eq_true_eq] at t
  refine M.TC_bind (Mid := fun x => 0 ≤ x ∧ x ≤ 255) (M.TC_idx hs.2.1 t.1 fun x hx => hc.byte x (List.mem_of_getElem? hx)) fun x hx => M.TC_ret (.inl ⟨_, rfl, ?_, ?_⟩)
  · have e1 : w64 (s.1 * 67) = s.1 * 67 := w64_eq _ (by omega)
    have e2 : w64 x = x := w64_eq _ (by omega)
    have e3 : w64 (s.1 * 67 + x) = s.1 * 67 + x := w64_eq _ (by omega)
    have e4 : w64 (s.2 + 1) = s.2 + 1 := w64_eq _ (by omega)
    simp only [e1, e2, e3, e4]
    exact ⟨tmod_in (by omega) (by omega), by omega, by omega⟩
  · simp only
    rw [w64_eq _ (by omega)]; omega
theorem next_ok {code : List Int} (hc : ByC code) {s : TL01source} (hs : Src code s) (n : Int) (hn : n ≤ 1000000) : M.TC (spec_l01Next s n) (fun r => Src code r.2 ∧ 0 ≤ r.1 ∧ (r.1 < n ∨ (n ≤ 1 ∧ r.1 = 0))) := by
  have hl := hc.len
  obtain ⟨h1, h2, h3, h4⟩ := hs
  unfold spec_l01Next
  refine M.TC_ite (fun t => M.TC_ret ⟨⟨h1, h2, h3, h4⟩, by simp, .inr ⟨by simpa using t, rfl⟩⟩) (fun t => ?_)
  have t : 1 < n := by simpa using t
  have e1 : w64 (s.seed * 48271) = s.seed * 48271 := w64_eq _ (by omega)
  have e2 : w64 (s.seed * 48271 + 59) = s.seed * 48271 + 59 := w64_eq _ (by omega)
  have hsd := tmod_in (x := s.seed * 48271 + 59) (n := 2147483647) (by omega) (by omega)
  simp only [e1, e2]
  generalize (s.seed * 48271 + 59).tmod 2147483647 = sd at hsd ⊢
  have hq := tdiv_in hsd.1 hsd.2
  generalize sd.tdiv 31 = q at hq ⊢
  have e3 : w64 q = q := w64_eq _ (by omega)
  have e4 : w64 (s.at_ + 1) = s.at_ + 1 := w64_eq _ (by omega)
  simp only [e3, e4, h1]
  refine M.TC_bind (Mid := fun (x : Int × Int) => 0 ≤ x.1 ∧ 0 ≤ x.2 ∧ x.2 ≤ code.length) ?_ (fun x hx => M.TC_bind (M.TC_guard (Post := fun _ => True) (by simp; omega) trivial) fun _ _ => M.TC_ret ⟨⟨rfl, hx.2.1, hx.2.2, hsd⟩, (tmod_in hx.1 (by omega)).1, .inl (tmod_in hx.1 (by omega)).2⟩)
  refine M.TC_ite (fun t => ?_) (fun _ => M.TC_ret ⟨hq.1, h2, h3⟩)
  have t : s.at_ < code.length := by simpa using t
  refine M.TC_bind (Mid := fun x => 0 ≤ x ∧ x ≤ 255) (M.TC_idx h2 t fun x hx => hc.byte x (List.mem_of_getElem? hx)) fun x hx => ?_
  refine M.TC_ite (fun _ => ?_) (fun _ => M.TC_ret ⟨?_, by simp only; omega, by simp only; omega⟩)
  · have e5 : w64 (s.at_ + 1 - 1) = s.at_ := by rw [w64_eq _ (by omega)]; omega
    rw [e5]
    refine M.TC_bind (Mid := fun x => 0 ≤ x ∧ x ≤ 255) (M.TC_idx h2 t fun x hx => hc.byte x (List.mem_of_getElem? hx)) fun x hx => M.TC_ret ⟨?_, by simp only; omega, by simp only; omega⟩
    simp only
    rw [w64_eq _ (by omega)]; exact hx.1
  · simp only
    rw [w64_eq x (by omega), w64_eq _ (by omega)]; omega
theorem pick_ok {code : List Int} (hc : ByC code) {s : TL01source} (hs : Src code s) (l : List Int) (h1 : 1 ≤ l.length) (h2 : l.length ≤ 1000) (P : Int → Prop) (hP : ∀ x ∈ l, P x) : M.TC (spec_l01Pick s l) (fun r => Src code r.2.1 ∧ P r.1) := by
  unfold spec_l01Pick
  refine M.TC_bind (next_ok hc hs l.length (by omega)) fun x hx => M.TC_bind (Mid := P) (M.TC_idx hx.2.1 (by omega) fun y hy => hP y (List.mem_of_getElem? hy)) fun y hy => M.TC_ret ⟨hx.1.mk' hs.code_, hy⟩
theorem value_ok {code : List Int} (hc : ByC code) {s : TL01source} (hs : Src code s) : M.TC (spec_l01DrawValue s) (fun r => Src code r.2 ∧ inI64 r.1) := by
  unfold spec_l01DrawValue
  refine M.TC_bind (next_ok hc hs 24 (by omega)) fun x hx => ?_
  refine M.TC_bind (Mid := fun _ => True) (M.TC_ite (fun _ => M.TC_ret trivial) (fun _ => M.TC_ite (fun _ => M.TC_ret trivial) (fun _ => M.TC_ret trivial))) fun b _ => ?_
  refine M.TC_ite (fun _ => M.TC_ret ⟨hx.1.mk' hs.code_, by simp [inI64]⟩) (fun _ => M.TC_ite (fun _ => ?_) (fun _ => M.TC_ite (fun _ => ?_) (fun _ => ?_)))
  · exact M.TC_bind (pick_ok hc (hx.1.mk' hs.code_) _ (by simp) (by simp) inI64 (by simp [inI64])) fun y hy => M.TC_ret ⟨hy.1.mk' hs.code_, hy.2⟩
  · exact M.TC_bind (next_ok hc (hx.1.mk' hs.code_) 2000 (by omega)) fun y hy => M.TC_ret ⟨hy.1.mk' hs.code_, w64_bd _⟩
  · exact M.TC_bind (next_ok hc (hx.1.mk' hs.code_) 41 (by omega)) fun y hy => M.TC_ret ⟨hy.1.mk' hs.code_, w64_bd _⟩
/-- what a drawn matrix is at least: not large, of numbers -/
structure MatS (a : List (List Int)) : Prop where
  rows : a.length ≤ 11
  row : ∀ r ∈ a, r.length ≤ 10 ∧ ∀ x ∈ r, inI64 x
theorem MatS.sm {a : List (List Int)} (h : MatS a) : smII a := ⟨by have := h.rows; omega, fun r hr => by have := (h.row r hr).1; omega⟩
theorem MatS.fit {a : List (List Int)} (h : MatS a) : fitL (fitL inI64) a := ⟨by have := h.rows; omega, fun r hr => ⟨by have := (h.row r hr).1; omega, (h.row r hr).2⟩⟩
theorem MatS.of {m n : Nat} {f : Nat → Nat → Int} (hm : m ≤ 10) (hn : n ≤ 10) (hf : ∀ i j, inI64 (f i j)) : MatS (matF m n f) := by
  refine ⟨by rw [matF_len]; omega, fun r hr => ?_⟩
  simp only [matF, tab, List.mem_map, List.mem_range] at hr
  obtain ⟨i, hi, rfl⟩ := hr
  refine ⟨by simp; omega, fun x hx => ?_⟩
  simp only [List.mem_map, List.mem_range] at hx
  obtain ⟨j, hj, rfl⟩ := hx
  exact hf i j
theorem size_ok {code : List Int} (hc : ByC code) {s : TL01source} (hs : Src code s) (m n : Nat) (hm : 1 ≤ m ∧ m ≤ 10) (hn : 1 ≤ n ∧ n ≤ 10) : M.TC (spec_l02DrawSize s (m : Int) (n : Int)) (fun r => MatS r.1 ∧ Src code r.2) := by
  unfold spec_l02DrawSize
  rw [hs.code_]
  refine M.TC_bindC (spec_l02Bottom_ok (by omega) (by omega)) (M.TC_bind (pick_ok hc hs _ (by simp) (by simp) (fun x => 2 ≤ x ∧ x ≤ 5) (by simp)) fun p hp => ?_)
  refine M.TC_bind (Mid := fun (r : Int × Int × List (List Int)) => Src code ⟨code, r.1, r.2.1⟩ ∧ ∃ f, r.2.2 = matF m n f ∧ ∀ i j, inI64 (f i j)) (M.TC_for (fun _ (r : Int × Int × List (List Int)) => Src code ⟨code, r.1, r.2.1⟩ ∧ ∃ f, r.2.2 = matF m n f ∧ ∀ i j, inI64 (f i j)) _ (by omega) (by omega) ⟨hp.1.mk' rfl, _, rfl, fun _ _ => by simp [inI64]⟩ (fun i r h1 h2 hI => ?_) (fun _ _ _ hI => hI)) fun r hr => ?_
  · refine M.TC_bind (Mid := fun (r : Int × Int × List (List Int)) => Src code ⟨code, r.1, r.2.1⟩ ∧ ∃ f, r.2.2 = matF m n f ∧ ∀ i j, inI64 (f i j)) (M.TC_for (fun _ (r : Int × Int × List (List Int)) => Src code ⟨code, r.1, r.2.1⟩ ∧ ∃ f, r.2.2 = matF m n f ∧ ∀ i j, inI64 (f i j)) _ (by omega) (by omega) hI (fun j r h3 h4 hI => ?_) (fun _ _ _ hI => hI)) fun r hr => M.TC_ret (.inl ⟨_, rfl, hr⟩)
    obtain ⟨hsr, f, hf, hfi⟩ := hI
    refine M.TC_bind (next_ok hc hsr p.1 (by omega)) fun x hx => ?_
    refine M.TC_bind (Mid := fun (r : Int × Int × List (List Int)) => Src code ⟨code, r.1, r.2.1⟩ ∧ ∃ f, r.2.2 = matF m n f ∧ ∀ i j, inI64 (f i j)) (M.TC_ite (fun _ => ?_) (fun _ => M.TC_ret ⟨hx.1.mk' rfl, f, hf, hfi⟩)) fun r hr => M.TC_ret (.inl ⟨_, rfl, hr⟩)
    rw [hf]
    obtain ⟨i', rfl⟩ : ∃ q : Nat, i = (q : Int) := ⟨i.toNat, by omega⟩
    obtain ⟨j', rfl⟩ : ∃ q : Nat, j = (q : Int) := ⟨j.toNat, by omega⟩
    refine M.TC_bindC (idx_tab (by omega)) (M.TC_bind (next_ok hc (hx.1.mk' rfl) 26 (by omega)) fun y hy => ?_)
    refine M.TC_bindC (idx_tab (by omega)) (M.TC_bindC (M.Conv_upd (by rw [tab_len]; omega)) (M.TC_ret ⟨hy.1.mk' rfl, fun p q => if p = i' ∧ q = j' then w64 (y.1 - 10) else f p q, ?_, fun p q => ?_⟩))
    · simp only [Int.toNat_natCast]
      have := matF_set (m := m) (n := n) (i := i') (j := j') (f := f) (g := fun p q => if p = i' ∧ q = j' then w64 (y.1 - 10) else f p q) (fun p q _ _ hpq => by rw [if_neg hpq])
      simpa using this
    · simp only
      split
      · exact w64_bd _
      · exact hfi p q
  · obtain ⟨hsr, f, hf, hfi⟩ := hr
    refine M.TC_bind (next_ok hc hsr 60 (by omega)) fun x hx => ?_
    rw [hf]
    have hM := MatS.of (m := m) (n := n) hm.2 hn.2 hfi
    refine M.TC_ite (fun _ => ?_) (fun _ => M.TC_ite (fun _ => ?_) (fun _ => M.TC_ite (fun _ => ?_) (fun _ => M.TC_ret ⟨hM, hx.1.mk' rfl⟩)))
    · refine M.TC_bindC (idx_tab (i := 0) (by omega)) (M.TC_bind (value_ok hc (hx.1.mk' rfl)) fun y hy => ?_)
      refine M.TC_bindC (idx_tab (i := 0) (by omega)) (M.TC_bindC (M.Conv_upd (i := 0) (by rw [tab_len]; omega)) (M.TC_ret ⟨?_, hy.1.mk' rfl⟩))
      have := matF_set (m := m) (n := n) (i := 0) (j := 0) (f := f) (g := fun p q => if p = 0 ∧ q = 0 then y.1 else f p q) (fun p q _ _ hpq => by rw [if_neg hpq])
      rw [if_pos ⟨rfl, rfl⟩] at this
      rw [this]
      refine MatS.of hm.2 hn.2 fun p q => ?_
      split
      · exact hy.2
      · exact hfi p q
    · refine M.TC_bindC (M.Conv_app (by rw [matF_len]; simp; omega)) (M.TC_ret ⟨⟨by simp [matF_len]; omega, fun r hr => ?_⟩, hx.1.mk' rfl⟩)
      rcases List.mem_append.1 hr with hr | hr
      · exact hM.row r hr
      · simp at hr; subst hr; simp
    · exact M.TC_ret ⟨⟨by simp, by simp⟩, hx.1.mk' rfl⟩

structure VecS (x : List Int) : Prop where
  len : x.length ≤ 20
  mem : ∀ v ∈ x, inI64 v
theorem VecS.sm {x : List Int} (h : VecS x) : smI x := by have := h.len; unfold smI; omega
theorem VecS.fit {x : List Int} (h : VecS x) : fitL inI64 x := ⟨by have := h.len; omega, h.mem⟩
theorem VecS.snoc {x : List Int} {v : Int} (h : VecS x) (hl : x.length ≤ 19) (hv : inI64 v) : VecS (x ++ [v]) := ⟨by simp; omega, fun y hy => by
  rcases List.mem_append.1 hy with hy | hy
  · exact h.mem y hy
  · simp at hy; subst hy; exact hv⟩
theorem VecS.set {x : List Int} {v : Int} (i : Nat) (h : VecS x) (hv : inI64 v) : VecS (x.set i v) := ⟨by rw [List.length_set]; exact h.len, fun y hy => by
  rcases List.mem_or_eq_of_mem_set hy with hy | hy
  · exact h.mem y hy
  · subst hy; exact hv⟩
theorem vector_ok {code : List Int} (hc : ByC code) {s : TL01source} (hs : Src code s) (n : Int) (h0 : 0 ≤ n) (hn : n ≤ 15) : M.TC (spec_l02DrawVector s n) (fun r => VecS r.1 ∧ Src code r.2) := by
  unfold spec_l02DrawVector
  rw [hs.code_]
  refine M.TC_bind (Mid := fun (r : Int × Int × Int × List Int) => Src code ⟨code, r.1, r.2.1⟩ ∧ VecS r.2.2.2 ∧ r.2.2.2.length ≤ 15) (M.TC_loop (fun (r : Int × Int × Int × List Int) => Src code ⟨code, r.1, r.2.1⟩ ∧ VecS r.2.2.2 ∧ 0 ≤ r.2.2.1 ∧ (r.2.2.2.length : Int) + r.2.2.1 ≤ 15) (fun r => r.2.2.1.toNat) _ ⟨hs.mk' rfl, ⟨by simp, by simp⟩, h0, by simp; omega⟩ fun r hI => ?_) fun r hr => ?_
  · obtain ⟨h1, h2, h3, h4⟩ := hI
    refine M.TC_ite (fun t => ?_) (fun _ => M.TC_ret (.inr ⟨_, rfl, h1, h2, by simp only; omega⟩))
    have t : 0 < r.2.2.1 := by simpa using t
    refine M.TC_bind (next_ok hc h1 31 (by omega)) fun x hx => ?_
    refine M.TC_bindC (M.Conv_app (by simp; omega)) (M.TC_bind (next_ok hc (hx.1.mk' rfl) 8 (by omega)) fun y hy => ?_)
    have hv : VecS (r.2.2.2 ++ [w64 (x.1 - 15)]) := h2.snoc (by omega) (w64_bd _)
    have hl : (r.2.2.2 ++ [w64 (x.1 - 15)]).length = r.2.2.2.length + 1 := by simp
    refine M.TC_bind (Mid := fun l => VecS l ∧ l.length = r.2.2.2.length + 1) (M.TC_ite (fun _ => ?_) (fun _ => M.TC_ret ⟨hv, hl⟩)) fun l hl2 => M.TC_ret (.inl ⟨_, rfl, ⟨hy.1.mk' rfl, hl2.1, ?_, ?_⟩, ?_⟩)
    · have e : w64 (((r.2.2.2 ++ [w64 (x.1 - 15)]).length : Int) - 1) = (r.2.2.2.length : Int) := by rw [hl, w64_eq _ (by omega)]; omega
      rw [e]
      refine M.TC_bindC (M.Conv_idx (x := w64 (x.1 - 15)) (by simp)) (M.TC_bindC (M.Conv_upd (by simp)) (M.TC_ret ⟨hv.set _ (by simp [inI64]), by rw [List.length_set, hl]⟩))
    · simp only; rw [w64_eq _ (by omega)]; omega
    · simp only; rw [w64_eq _ (by omega)]; omega
    · simp only; rw [w64_eq _ (by omega)]; omega
  · obtain ⟨h1, h2, h3⟩ := hr
    refine M.TC_bind (next_ok hc h1 60 (by omega)) fun x hx => ?_
    refine M.TC_ite (fun _ => ?_) (fun _ => M.TC_ite (fun _ => M.TC_ret ⟨⟨by simp, by simp⟩, hx.1.mk' rfl⟩) (fun _ => M.TC_ret ⟨h2, hx.1.mk' rfl⟩))
    exact M.TC_bind (value_ok hc (hx.1.mk' rfl)) fun y hy => M.TC_bindC (M.Conv_app (by simp; omega)) (M.TC_ret ⟨h2.snoc (by omega) hy.2, hy.1.mk' rfl⟩)
theorem likeInts_refl {a : List Int} (h : a.length ≤ 1099511627776) : M.Conv (laws_likeInts a a) true := by
  unfold laws_likeInts
  refine M.Conv_ite (fun t => by simp at t) (fun _ => ?_)
  rcases Conv_check (ρ := Bool) (n := a.length) (lo := 0) (f := (fun i1 => (fun (_ : Unit) => M.bind (M.idx a i1) (fun x2 => M.bind (M.idx a i1) (fun x3 => M.ite (x2 != x3) (M.ret (.inr (.inr false))) (M.ret (.inl ()))))))) (fun _ => True) false (by omega) (fun i _ hi => .inl ⟨trivial, M.Conv_bind (nd_read hi) (M.Conv_bind (nd_read hi) (M.Conv_ite (fun t => by simp at t) (fun _ => M.Conv_ret _)))⟩) with ⟨_, h2⟩ | ⟨⟨i, _, _, h3⟩, _⟩
  · exact M.Conv_bind h2 (M.Conv_ret _)
  · exact absurd trivial h3
theorem foldI_at {σ α : Type} {g : Nat → α → σ → σ} {a : List α} (J : Nat → σ → Prop) : ∀ (l : List α) (i : Nat) (s : σ), (∀ k, l[k]? = a[i + k]?) → J i s → (∀ k x s, a[k]? = some x → J k s → J (k + 1) (g k x s)) → J (i + l.length) (foldI g i l s)
  | [], i, s, _, h, _ => h
  | x :: xs, i, s, hl, h, step => by
    have h0 : a[i]? = some x := by have := hl 0; simpa using this.symm
    have := foldI_at J xs (i + 1) (g i x s) (fun k => by have := hl (k + 1); simp only [List.getElem?_cons_succ] at this; rw [this]; congr 1; omega) (step i x s h0 h) step
    rw [show i + (x :: xs).length = i + 1 + xs.length by simp; omega]
    exact this
theorem ent_at {a : List (List Int)} {i j : Nat} {row : List Int} (h : a[i]? = some row) : entA a i j = (row[j]?).getD 0 := by simp only [entA, h, Option.getD_some]
theorem val_ent {a : List (List Int)} {w i j : Nat} (hm : Mat a w) (hi : i < a.length) (hj : j < w) : entA a i j = -1000000000000000 ∨ (-1000000 ≤ entA a i j ∧ entA a i j ≤ 1000000) := val_cases (ent_val hm hi hj).2.2
theorem big_ok (code : List Int) : M.Conv (laws_big code) (decide (4096 < (code.length : Int))) := M.Conv_ret _
theorem ByC.of {code : List Int} (h : fitL inU8 code) (hb : decide (4096 < (code.length : Int)) = false) : ByC code := ⟨by have := of_decide_eq_false hb; omega, fun x hx => h.2 x hx⟩
def co (c : List Int) (i : Nat) : Int := (c[i]?).getD (-1000000000000000)
theorem co_get {c : List Int} {i : Nat} (h : i < c.length) : c[i]? = some (co c i) := by
  unfold co; rw [List.getElem?_eq_getElem h]; rfl
theorem co_out {c : List Int} {i : Nat} (h : c.length ≤ i) : co c i = -1000000000000000 := by
  unfold co; rw [List.getElem?_eq_none h]; rfl
theorem co_val {c : List Int} (hv : c.all valB = true) (i : Nat) : co c i = -1000000000000000 ∨ -1000000 ≤ co c i ∧ co c i ≤ 1000000 := by
  by_cases hi : i < c.length
  · rw [List.all_eq_true] at hv
    exact val_cases (hv _ (List.mem_of_getElem? (co_get hi)))
  · exact .inl (co_out (by omega))
theorem times_co {a p : Int} (h : a ≠ -1000000000000000) (ha : -1000000 ≤ a ∧ a ≤ 1000000) (hp : -1000000 ≤ p ∧ p ≤ 1000000) : timesI a p = a + p := by
  simp only [timesI]
  rw [show (a == (-1000000000000000)) = false by simpa using h, show (p == (-1000000000000000)) = false by simp; omega]
  exact w64_eq _ (by omega)
theorem times_bot (p : Int) : timesI (-1000000000000000) p = -1000000000000000 := by simp [timesI]
structure IsEv (c : List Int) (x v : Int) : Prop where
  up : ∀ i : Nat, co c i ≠ -1000000000000000 → co c i + i * x ≤ v
  on : ∃ i : Nat, co c i ≠ -1000000000000000 ∧ v = co c i + i * x
theorem IsEv.unique {c : List Int} {x v w : Int} (h : IsEv c x v) (g : IsEv c x w) : v = w := by
  obtain ⟨i, h1, h2⟩ := h.on
  obtain ⟨k, g1, g2⟩ := g.on
  have := h.up k g1
  have := g.up i h1
  omega
structure PartP (c d : List Int) (n i k : Nat) (s : List Int) : Prop where
  len : s.length = n
  up : ∀ p q : Nat, (p < i ∨ p = i ∧ q < k) → co c p ≠ -1000000000000000 → co d q ≠ -1000000000000000 → co c p + co d q ≤ co s (p + q)
  on : ∀ m : Nat, co s m = -1000000000000000 ∨ ∃ p q : Nat, p + q = m ∧ co c p ≠ -1000000000000000 ∧ co d q ≠ -1000000000000000 ∧ co s m = co c p + co d q
theorem co_set {s : List Int} {i m : Nat} {v : Int} (hi : i < s.length) : co (s.set i v) m = if m = i then v else co s m := by
  unfold co
  by_cases e : m = i
  · subst e; rw [if_pos rfl, List.getElem?_set_self hi]; rfl
  · rw [if_neg e, List.getElem?_set_ne (by omega)]
theorem PartP.step {c d s : List Int} {n i k : Nat} (hc : c.all valB = true) (hd : d.all valB = true) (h : PartP c d n i k s) (hn : i + k < n) : PartP c d n i (k + 1) (s.set (i + k) (mx (co s (i + k)) (timesI (co c i) (co d k)))) := by
  have hlt : i + k < s.length := by rw [h.len]; exact hn
  have vc := co_val hc i
  have vd := co_val hd k
  have vs : co s (i + k) = -1000000000000000 ∨ -2000000 ≤ co s (i + k) := by
    rcases h.on (i + k) with e | ⟨p, q, _, h1, h2, e⟩
    · exact .inl e
    · have := co_val hc p
      have := co_val hd q
      omega
  -- the new coefficient
  have hz : (mx (co s (i + k)) (timesI (co c i) (co d k)) = co s (i + k) ∧ (co c i = -1000000000000000 ∨ co d k = -1000000000000000 ∨ co c i + co d k ≤ co s (i + k))) ∨ (mx (co s (i + k)) (timesI (co c i) (co d k)) = co c i + co d k ∧ co c i ≠ -1000000000000000 ∧ co d k ≠ -1000000000000000 ∧ co s (i + k) ≤ co c i + co d k) := by
    rw [mx_eq]
    by_cases e1 : co c i = -1000000000000000
    · rw [e1, times_bot]; left; omega
    · by_cases e2 : co d k = -1000000000000000
      · rw [e2, show timesI (co c i) (-1000000000000000) = -1000000000000000 by simp [timesI]]; left; omega
      · rw [times_co e1 (by omega) (by omega)]
        by_cases e3 : co c i + co d k ≤ co s (i + k)
        · left; omega
        · right; omega
  refine ⟨by rw [List.length_set]; exact h.len, fun p q hpq h1 h2 => ?_, fun m => ?_⟩
  · rw [co_set hlt]
    by_cases e : p + q = i + k
    · rw [if_pos e]
      by_cases e2 : p = i ∧ q = k
      · obtain ⟨rfl, rfl⟩ := e2; omega
      · have := h.up p q (by omega) h1 h2
        rw [e] at this
        omega
    · rw [if_neg e]
      exact h.up p q (by omega) h1 h2
  · rw [co_set hlt]
    by_cases e : m = i + k
    · rw [if_pos e]
      rcases hz with ⟨hz, _⟩ | ⟨hz, h1, h2, _⟩
      · rw [hz]
        have := h.on m
        rw [e] at this ⊢
        exact this
      · exact .inr ⟨i, k, e.symm, h1, h2, hz⟩
    · rw [if_neg e]; exact h.on m
theorem shp_width {a : List (List Int)} {w : Nat} (h : Shp a w) : widthN a = w := by
  have h1 := h.rows
  unfold widthN
  cases a with
  | nil => simp at h1
  | cons r rs => exact h.row r (by simp)
theorem mat_matB {a : List (List Int)} {w : Nat} (h : Mat a w) : matB a = true := by
  rw [matB_shp h.shp, List.all_eq_true]
  intro r hr
  rw [List.all_eq_true]
  exact (h.row r hr).2
structure DotP (u v : Nat → Int) (n : Nat) (s : Int) : Prop where
  up : ∀ j, j < n → u j ≠ -1000000000000000 → v j ≠ -1000000000000000 → u j + v j ≤ s
  on : s = -1000000000000000 ∨ ∃ j, j < n ∧ u j ≠ -1000000000000000 ∧ v j ≠ -1000000000000000 ∧ s = u j + v j
def Bd (B : Int) (x : Int) : Prop := x = -1000000000000000 ∨ (-B ≤ x ∧ x ≤ B)
theorem DotP.comm {u v : Nat → Int} {n : Nat} {s : Int} (h : DotP u v n s) : DotP v u n s := by
  refine ⟨fun j hj h1 h2 => by have := h.up j hj h2 h1; omega, ?_⟩
  rcases h.on with e | ⟨j, hj, h1, h2, e⟩
  · exact .inl e
  · exact .inr ⟨j, hj, h2, h1, by omega⟩
theorem DotP.unique {u v : Nat → Int} {n : Nat} {s t : Int} (hu : ∀ j, j < n → Bd 2000000 (u j)) (hv : ∀ j, j < n → Bd 2000000 (v j)) (h : DotP u v n s) (g : DotP u v n t) : s = t := by
  have key : ∀ {s t : Int}, DotP u v n s → DotP u v n t → t ≤ s := fun {s t} h g => by
    rcases g.on with e | ⟨j, hj, h1, h2, e⟩
    · rcases h.on with e' | ⟨j, hj, h1, h2, e'⟩
      · omega
      · have b1 := hu j hj
        have b2 := hv j hj
        unfold Bd at b1 b2
        omega
    · have := h.up j hj h1 h2
      omega
  have := key h g
  have := key g h
  omega
theorem nd_of {l : List Int} {i : Nat} {x : Int} (h : l[i]? = some x) : nd l i = x := by unfold nd; rw [h]; rfl
theorem dotL_ok {x row : List Int} (hl : x.length = row.length) (hr : ∀ j, j < row.length → Bd 2000000 (nd row j)) (hx : ∀ j, j < row.length → Bd 2000000 (nd x j)) : DotP (nd row) (nd x) row.length (dotL x row) := by
  have key := foldI_at (g := fun j v s => mx s (timesI v ((x[j]?).getD 0))) (a := row) (fun k (s : Int) => k ≤ row.length ∧ -1000000000000000 ≤ s ∧ (∀ j, j < k → nd row j ≠ -1000000000000000 → nd x j ≠ -1000000000000000 → nd row j + nd x j ≤ s) ∧ (s = -1000000000000000 ∨ ∃ j, j < k ∧ nd row j ≠ -1000000000000000 ∧ nd x j ≠ -1000000000000000 ∧ s = nd row j + nd x j)) row 0 (-1000000000000000) (fun k => by simp) ⟨by omega, by omega, fun j hj => by omega, .inl rfl⟩ (fun k v s hv hI => by
    obtain ⟨_, i1, i2, i3⟩ := hI
    have hk := (List.getElem?_eq_some_iff.1 hv).1
    have ev := nd_of hv
    have b1 := hr k hk
    have b2 := hx k hk
    unfold Bd at b1 b2
    have et : timesI v ((x[k]?).getD 0) = bif (v == (-1000000000000000)) || (nd x k == (-1000000000000000)) then -1000000000000000 else v + nd x k := by
      change timesI v (nd x k) = _
      unfold timesI
      cases hz : ((v == (-1000000000000000)) || (nd x k == (-1000000000000000))) with
      | true => rfl
      | false =>
        simp only [Bool.or_eq_false_iff, beq_eq_false_iff_ne, ne_eq] at hz
        simp only [cond_false]
        exact w64_eq _ (by omega)
    refine ⟨by omega, by rw [mx_eq]; omega, fun j hj h1 h2 => ?_, ?_⟩
    · rw [mx_eq]
      by_cases e : j = k
      · subst e
        rw [et, show (v == (-1000000000000000)) = false by rw [← ev]; simpa using h1, show (nd x j == (-1000000000000000)) = false by simpa using h2]
        simp only [Bool.or_self, cond_false]; omega
      · have := i2 j (by omega) h1 h2
        omega
    · rw [mx_eq, et]
      have old : s = -1000000000000000 ∨ ∃ j, j < k + 1 ∧ nd row j ≠ -1000000000000000 ∧ nd x j ≠ -1000000000000000 ∧ s = nd row j + nd x j := i3.imp id fun ⟨j, hj, h⟩ => ⟨j, by omega, h⟩
      cases hz : ((v == (-1000000000000000)) || (nd x k == (-1000000000000000))) with
      | true =>
        simp only [cond_true]
        rw [show max s (-1000000000000000) = s by omega]
        exact old
      | false =>
        simp only [Bool.or_eq_false_iff, beq_eq_false_iff_ne, ne_eq] at hz
        simp only [cond_false]
        by_cases e : s ≤ v + nd x k
        · rw [show max s (v + nd x k) = v + nd x k by omega]
          exact .inr ⟨k, by omega, by rw [ev]; exact hz.1, hz.2, by rw [ev]⟩
        · rw [show max s (v + nd x k) = s by omega]
          exact old)
  obtain ⟨_, _, k2, k3⟩ := key
  rw [Nat.zero_add] at k2 k3
  exact ⟨k2, k3⟩
def rowN (a : List (List Int)) (i : Nat) : List Int := (a[i]?).getD []
theorem rowN_get {a : List (List Int)} {i : Nat} (h : i < a.length) : a[i]? = some (rowN a i) := by unfold rowN; rw [List.getElem?_eq_getElem h]; rfl
theorem nd_row {a : List (List Int)} {i j : Nat} (h : i < a.length) : nd (rowN a i) j = entA a i j := (ent_at (rowN_get h)).symm
theorem nd_col {b : List (List Int)} {j k : Nat} (h : j < b.length) : nd (colL b k) j = entA b j k := nd_of (tab_get h)
def mulM (a b : List (List Int)) : List (List Int) := matF a.length (widthN b) fun i k => dotL (colL b k) (rowN a i)
theorem impl_multiply_ok {a b : List (List Int)} {n w : Nat} (ha : Shp a n) (hb : Shp b w) (hn : b.length = n) : M.Conv (impl_multiply a b) (mulM a b) := by
  have har := ha.rows
  have hbr := hb.rows
  have hbc := hb.cols
  have hw := shp_width hb
  unfold impl_multiply mulM
  rw [hw]
  obtain ⟨r0, h0, hl0, _⟩ := ent_read hb (i := 0) (j := 0) (by omega) (by omega)
  refine M.Conv_bind h0 ?_
  rw [hl0]
  refine M.Conv_bind (matrixBy_ok (fun i j => impl_multiply_1 i j a b) (fun i k => dotL (colL b k) (rowN a i)) (by omega) (by omega) fun i k hi hk => ?_) (M.Conv_ret _)
  have hrl := ha.row _ (List.mem_of_getElem? (rowN_get hi))
  unfold impl_multiply_1
  refine M.Conv_bind (get_row (rowN_get hi)) (M.Conv_bind (x := dotL (colL b k) (rowN a i)) ?_ (M.Conv_ret _))
  refine Conv_foldI (fun j v s => mx s (timesI v (((colL b k)[j]?).getD 0))) (fun _ _ => True) (by omega) trivial fun j v s hv _ => ⟨?_, trivial⟩
  have hj := (List.getElem?_eq_some_iff.1 hv).1
  obtain ⟨rb, g1, _, g2⟩ := ent_read hb (i := j) (j := k) (by omega) hk
  refine M.Conv_bind (get_row' hv) (M.Conv_bind g1 (M.Conv_bind g2 (M.Conv_bind (impl_times_ok _ _) ((M.Conv_ret _).of ?_))))
  rw [show (colL b k)[j]? = some (entA b j k) from tab_get (by omega)]; rfl
theorem mulM_shp {a b : List (List Int)} {n w : Nat} (ha : Shp a n) (hb : Shp b w) : Shp (mulM a b) w := by
  unfold mulM
  rw [shp_width hb]
  exact shp_of ha.rows hb.cols
theorem mat_bd {a : List (List Int)} {w i j : Nat} (h : Mat a w) (hi : i < a.length) (hj : j < w) : Bd 1000000 (entA a i j) := val_ent h hi hj
theorem DotP.congr {u v u' v' : Nat → Int} {n : Nat} {s : Int} (h : DotP u v n s) (hu : ∀ j, j < n → u j = u' j) (hv : ∀ j, j < n → v j = v' j) : DotP u' v' n s := by
  refine ⟨fun j hj h1 h2 => ?_, ?_⟩
  · rw [← hu j hj] at h1 ⊢
    rw [← hv j hj] at h2 ⊢
    exact h.up j hj h1 h2
  · rcases h.on with e | ⟨j, hj, h1, h2, e⟩
    · exact .inl e
    · rw [hu j hj] at h1 e
      rw [hv j hj] at h2 e
      exact .inr ⟨j, hj, h1, h2, e⟩
theorem colL_vals {b : List (List Int)} {w k : Nat} (hb : Mat b w) (hk : k < w) : ∀ x ∈ colL b k, valB x = true := (colL_vec hb hk).2.2
theorem bd_up {x : Int} (h : Bd 1000000 x) : Bd 2000000 x := by unfold Bd at *; omega
theorem mulM_eq (a b : List (List Int)) : mulM a b = matF a.length (widthN b) fun i k => dotL (colL b k) (rowN a i) := rfl
def pdot (a b : List (List Int)) (i j : Nat) : Nat → Int
  | 0 => -1000000000000000
  | k + 1 => mx (pdot a b i j k) (timesI (entA a i k) (entA b k j))
theorem pdot_dot {a b : List (List Int)} {n w i j : Nat} (ha : Shp a n) (hn : b.length = n) (hi : i < a.length) : dotL (colL b j) (rowN a i) = pdot a b i j n := by
  have hrl := ha.row _ (List.mem_of_getElem? (rowN_get hi))
  have := foldI_at (g := fun j' v s => mx s (timesI v (((colL b j)[j']?).getD 0))) (a := rowN a i) (fun k (s : Int) => s = pdot a b i j k) (rowN a i) 0 (-1000000000000000) (fun k => by simp) rfl (fun k v s hv hs => by
    have hk := (List.getElem?_eq_some_iff.1 hv).1
    subst hs
    have e1 : entA a i k = v := by rw [ent_at (rowN_get hi), hv]; rfl
    have e2 : ((colL b j)[k]?).getD 0 = entA b k j := by rw [show (colL b j)[k]? = some (entA b k j) from tab_get (by omega)]; rfl
    simp only [pdot, e1, e2])
  rw [Nat.zero_add, hrl] at this
  exact this
theorem spec_l02Multiply_ok {a b : List (List Int)} {n w : Nat} (ha : Shp a n) (hb : Shp b w) (hn : b.length = n) : M.Conv (spec_l02Multiply a b) (mulM a b) := by
  have har := ha.rows
  have hbr := hb.rows
  have hbc := hb.cols
  have e : mulM a b = matF a.length w fun i j => pdot a b i j n := by
    rw [mulM_eq, shp_width hb]
    exact matF_congr fun i j hi _ => pdot_dot (w := w) ha hn hi
  rw [e]
  unfold spec_l02Multiply
  obtain ⟨r0, h0, hl0, _⟩ := ent_read hb (i := 0) (j := 0) (by omega) (by omega)
  refine M.Conv_bind h0 ?_
  rw [hl0]
  refine M.Conv_bind (spec_l02Bottom_ok (by omega) (by omega)) ?_
  let g : Nat → Nat → Int := fun i j => pdot a b i j n
  let z : Nat → Nat → Int := fun _ _ => -1000000000000000
  rw [show (matF a.length w fun _ _ => (-1000000000000000 : Int)) = matF a.length w (part g z 0 0) from part_zero.symm]
  refine M.Conv_bind (x := matF a.length w g) ((Conv_forV (fun i => matF a.length w (part g z i 0)) (by omega) fun i hi => ?_).of part_all) (M.Conv_ret _)
  refine M.Conv_bind (x := (matF a.length w (part g z i w), (w : Int))) ?_ ((M.Conv_ret _).of (congrArg Sum.inl part_row))
  refine conv_up0 (fun j => (matF a.length w (part g z i j), (j : Int))) (n := w) (k0 := 0) rfl (by omega) (fun j _ hj => ?_) ?_
  · refine M.Conv_bind h0 ?_
    rw [hl0]
    refine M.Conv_ite (fun _ => ?_) (fun t => by have := of_decide_eq_false t; simp only at this; omega)
    let F : Nat → Nat → Nat → Int := fun k p q => if p = i ∧ q = j then pdot a b i j k else part g z i j p q
    have hF : ∀ k, F k i j = pdot a b i j k := fun k => if_pos ⟨rfl, rfl⟩
    have e0 : matF a.length w (part g z i j) = matF a.length w (F 0) := matF_congr fun p q _ _ => by
      by_cases h : p = i ∧ q = j
      · obtain ⟨rfl, rfl⟩ := h
        simp only [F, and_self, if_true, pdot]
        simp [part, z]
      · simp only [F, if_neg h]
    have e1 : matF a.length w (F n) = matF a.length w (part g z i (j + 1)) := matF_congr fun p q _ _ => by
      by_cases h : p = i ∧ q = j
      · obtain ⟨rfl, rfl⟩ := h
        simp only [F, and_self, if_true]
        simp [part, g]
      · simp only [F, if_neg h, part]
        congr 1
        rw [Bool.eq_iff_iff]; simp; omega
    refine M.Conv_bind (x := matF a.length w (F n)) ?_ ((M.Conv_ret _).of ?_)
    · simp only
      rw [e0, hn]
      refine Conv_forV (fun k => matF a.length w (F k)) (by omega) fun k hk => ?_
      obtain ⟨ra, a1, _, a2⟩ := ent_read ha (i := i) (j := k) hi (by omega)
      obtain ⟨rb, b1, _, b2⟩ := ent_read hb (i := k) (j := j) (by omega) hj
      have g1 := idx_tab (h := F k i) hj
      rw [hF] at g1
      refine M.Conv_bind (idx_tab hi) (M.Conv_bind (idx_tab hi) (M.Conv_bind g1 (M.Conv_bind a1 (M.Conv_bind a2 (M.Conv_bind b1 (M.Conv_bind b2 (M.Conv_bind (spec_l01Times_ok _ _) (M.Conv_bind g1 (M.Conv_bind (M.Conv_upd (by rw [tab_len]; exact hj)) ((M.Conv_ret _).of (congrArg Sum.inl ?_)))))))))))
      rw [Int.toNat_natCast]
      have := matF_set (m := a.length) (n := w) (i := i) (j := j) (f := F k) (g := F (k + 1)) (fun p q _ _ h => by simp only [F, if_neg h])
      rw [hF (k + 1)] at this
      exact this
    · refine congrArg Sum.inl (Prod.ext e1 ?_)
      simp only
      rw [w64_eq _ (by omega)]; omega
  · refine M.Conv_bind h0 ?_
    rw [hl0]
    exact M.Conv_ite (fun t => by have := of_decide_eq_true t; simp only at this; omega) (fun _ => M.Conv_ret _)
theorem flat_len {l : List (List Int)} {w : Nat} (h : ∀ r ∈ l, r.length = w) : l.flatten.length = l.length * w := by
  induction l with
  | nil => simp
  | cons r l ih =>
    rw [List.flatten_cons, List.length_append, ih fun q hq => h q (List.mem_cons_of_mem _ hq), h r List.mem_cons_self, List.length_cons, Nat.add_mul]; omega
theorem flat_get : ∀ {l : List (List Int)} {w i j : Nat}, (∀ r ∈ l, r.length = w) → i < l.length → j < w → (l.flatten)[i * w + j]? = some (entA l i j)
  | r :: l, w, 0, j, h, _, hj => by
    have hr := h r List.mem_cons_self
    rw [List.flatten_cons, Nat.zero_mul, Nat.zero_add, List.getElem?_append_left (by omega)]
    have : r[j]? = some (r[j]'(by omega)) := List.getElem?_eq_getElem _
    rw [this]
    simp [entA, this]
  | r :: l, w, i + 1, j, h, hi, hj => by
    have hr := h r List.mem_cons_self
    have := flat_get (l := l) (i := i) (fun q hq => h q (List.mem_cons_of_mem _ hq)) (by simpa using hi) hj
    rw [List.flatten_cons, List.getElem?_append_right (by rw [hr, Nat.add_mul]; omega), hr, show (i + 1) * w + j - w = i * w + j by rw [Nat.add_mul]; omega, this]
    simp [entA]
theorem spec_l07Flat_ok {a : List (List Int)} {w : Nat} (h : Shp a w) : M.Conv (spec_l07Flat a) a.flatten := by
  have hr := h.rows
  have hc := h.cols
  unfold spec_l07Flat
  refine M.Conv_bind (x := a.flatten) ((Conv_forV (fun i => (a.take i).flatten) (by omega) fun i hi => ?_).of (by simp)) (M.Conv_ret _)
  have hrow := rowN_get hi
  have hl := h.row _ (List.mem_of_getElem? hrow)
  have ht := flat_len (l := a.take i) (w := w) fun r hr => h.row r (List.mem_of_mem_take hr)
  have hm := Nat.mul_le_mul (show (a.take i).length ≤ 10 by simp; omega) hc.2
  refine M.Conv_bind (get_row hrow) (M.Conv_bind (M.Conv_app (by omega)) ((M.Conv_ret _).of (congrArg Sum.inl ?_)))
  rw [List.take_add_one, hrow]
  simp

def pw (a f : List (List Int)) : Nat → List (List Int)
  | 0 => f
  | k + 1 => mulM a (pw a f k)
structure Ser (a f : List (List Int)) (w : Nat) : Prop where
  mat : Mat a a.length
  fst : Mat f w
  len : f.length = a.length
theorem Ser.shp {a f : List (List Int)} {w : Nat} (h : Ser a f w) : ∀ k, Shp (pw a f k) w ∧ (pw a f k).length = a.length
  | 0 => ⟨h.fst.shp, h.len⟩
  | k + 1 => ⟨mulM_shp h.mat.shp (h.shp k).1, matF_len _ _ _⟩
def okTo (a f : List (List Int)) (k : Nat) : Prop := ∀ i, i ≤ k → matB (pw a f i) = true
theorem Ser.zero {a f : List (List Int)} {w : Nat} (h : Ser a f w) : okTo a f 0 := fun i hi => by
  obtain rfl : i = 0 := by omega
  exact mat_matB h.fst
theorem okTo.mono {a f : List (List Int)} {k m : Nat} (h : okTo a f k) (hm : m ≤ k) : okTo a f m := fun i hi => h i (by omega)
/-- the first power that is no matrix of values -/
theorem first_bad {a f : List (List Int)} {k : Nat} (h : ¬ okTo a f k) : ∃ i, i ≤ k ∧ matB (pw a f i) = false ∧ ∀ j, j < i → matB (pw a f j) = true := by
  induction k with
  | zero =>
    refine ⟨0, by omega, ?_, fun j hj => by omega⟩
    cases hb : matB (pw a f 0) with
    | false => rfl
    | true => exact absurd (fun i hi => by obtain rfl : i = 0 := by omega
                                           exact hb) h
  | succ k ih =>
    by_cases hk : okTo a f k
    · refine ⟨k + 1, by omega, ?_, fun j hj => hk j (by omega)⟩
      cases hb : matB (pw a f (k + 1)) with
      | false => rfl
      | true =>
        refine absurd (fun i hi => ?_) h
        by_cases e : i = k + 1
        · subst e; exact hb
        · exact hk i (by omega)
    · obtain ⟨i, h1, h2, h3⟩ := ih hk
      exact ⟨i, by omega, h2, h3⟩
def fl (a f : List (List Int)) (i : Nat) : List Int := (pw a f i).flatten
def sS (a f : List (List Int)) (m : Nat) : TL07series := ⟨a, pw a f (m - 1), tab m (fl a f)⟩
def oS (a f : List (List Int)) (m : Nat) : TOrbit := ⟨a, tab m (pw a f)⟩
theorem at_same : spec_l07At_BQ1 = spec_l07At_BQ0 := rfl
theorem at_step {a f : List (List Int)} {w m : Nat} (hs : Ser a f w) (hm : 1 ≤ m) (hb : matB (pw a f m) = true) (hm2 : m ≤ 1000) :
    M.Conv (M.bind (spec_l02Multiply a (pw a f (m - 1))) (fun x2 => M.bind (spec_IsMatrix x2) (fun x3 => M.ite (!x3) (M.ret (.inr (.inr (([] : List Int), false, (⟨a, x2, tab m (fl a f)⟩ : TL07series))))) (M.bind (spec_l07Flat x2) (fun x4 => M.bind (M.app (tab m (fl a f)) [x4]) (fun l1 => M.ret (.inl (x2, l1)))))))) (.inl (pw a f (m + 1 - 1), tab (m + 1) (fl a f)) : ((List (List Int)) × (List (List Int))) ⊕ (((List (List Int)) × (List (List Int))) ⊕ (List Int × Bool × TL07series))) := by
  obtain ⟨k, rfl⟩ : ∃ k, m = k + 1 := ⟨m - 1, by omega⟩
  have h1 := hs.shp k
  have h2 := hs.shp (k + 1)
  refine M.Conv_bind (x := pw a f (k + 1)) (spec_l02Multiply_ok hs.mat.shp h1.1 h1.2) (M.Conv_bind (spec_IsMatrix_ok h2.1.sm) ?_)
  rw [hb]
  exact M.Conv_ite (fun t => by cases t) (fun _ => M.Conv_bind (spec_l07Flat_ok h2.1) (M.Conv_bind (M.Conv_app (by simp [tab_len]; omega)) ((M.Conv_ret _).of (congrArg Sum.inl (Prod.ext rfl (tab_snoc (k + 1) (fl a f)))))))
theorem at_good {a f : List (List Int)} {w m k : Nat} (hs : Ser a f w) (hm : 1 ≤ m) (hm2 : m ≤ 500) (hk : k ≤ 500) (ok : okTo a f k) : M.Conv (spec_l07At_BQ0 (sS a f m) (k : Int)) (fl a f k, true, sS a f (max m (k + 1))) := by
  unfold spec_l07At_BQ0 sS
  refine M.Conv_bind (x := (Sum.inl (pw a f (max m (k + 1) - 1), tab (max m (k + 1)) (fl a f)) : ((List (List Int)) × (List (List Int))) ⊕ (List Int × Bool × TL07series))) ?_ (by exact M.Conv_bind (idx_tab (by omega)) (M.Conv_ret _))
  refine conv_up0 (fun m' => (pw a f (m' - 1), tab m' (fl a f))) (n := max m (k + 1)) (k0 := m) rfl (by omega) (fun m' h1 h2 => ?_) ?_
  · refine M.Conv_ite (fun _ => at_step hs (by omega) (ok m' (by omega)) (by omega)) (fun t => ?_)
    have := of_decide_eq_false t
    simp only [tab_len] at this
    omega
  · refine M.Conv_ite (fun t => ?_) (fun _ => M.Conv_ret _)
    have := of_decide_eq_true t
    simp only [tab_len] at this
    omega
theorem at_bad {a f : List (List Int)} {w m k : Nat} (hs : Ser a f w) (hm : 1 ≤ m) (hm2 : m ≤ 500) (hk : k ≤ 500) (ok : okTo a f (m - 1)) (bad : ¬ okTo a f k) : ∃ s, M.Conv (spec_l07At_BQ0 (sS a f m) (k : Int)) ([], false, s) := by
  obtain ⟨i, h1, h2, h3⟩ := first_bad bad
  have hmi : m ≤ i := by
    by_cases e : m ≤ i
    · exact e
    · have := ok i (by omega)
      rw [h2] at this; cases this
  refine ⟨⟨a, pw a f i, tab i (fl a f)⟩, ?_⟩
  unfold spec_l07At_BQ0 sS
  refine M.Conv_bind (x := (Sum.inr ([], false, ⟨a, pw a f i, tab i (fl a f)⟩) : ((List (List Int)) × (List (List Int))) ⊕ (List Int × Bool × TL07series))) ?_ (by exact M.Conv_ret _)
  refine conv_up0 (fun m' => (pw a f (m' - 1), tab m' (fl a f))) (n := i) (k0 := m) rfl hmi (fun m' h4 h5 => ?_) ?_
  · refine M.Conv_ite (fun _ => at_step hs (by omega) (h3 m' h5) (by omega)) (fun t => ?_)
    have := of_decide_eq_false t
    simp only [tab_len] at this
    omega
  · refine M.Conv_ite (fun _ => ?_) (fun t => ?_)
    · obtain ⟨j, rfl⟩ : ∃ j, i = j + 1 := ⟨i - 1, by omega⟩
      have g1 := hs.shp j
      have g2 := hs.shp (j + 1)
      refine M.Conv_bind (x := pw a f (j + 1)) (spec_l02Multiply_ok hs.mat.shp g1.1 g1.2) (M.Conv_bind (spec_IsMatrix_ok g2.1.sm) ?_)
      rw [h2]
      exact M.Conv_ite (fun _ => M.Conv_ret _) (fun t => by cases t)
    · have := of_decide_eq_false t
      simp only [tab_len] at this
      omega
theorem chk_pw {a f : List (List Int)} {w k : Nat} (hs : Ser a f w) : M.Conv (impl_checkedMatrix (pw a f k)) (bif matB (pw a f k) then (pw a f k, 0) else ([], 3)) := by
  have h := (hs.shp k).1
  rw [matB_shp h]
  exact impl_checkedMatrix_ok h
theorem grow_round {a f : List (List Int)} {w m : Nat} (hs : Ser a f w) (hm : 1 ≤ m) (hm2 : m ≤ 1000) :
    M.Conv (M.bind (M.idx (tab m (pw a f)) (w64 (((tab m (pw a f)).length : Int) - 1))) (fun x2 => M.bind (impl_multiply a x2) (fun x3 => M.bind (impl_checkedMatrix x3) (fun x4 => M.ite (x4.2 != 0) (M.ret (.inr (.inr (false, (⟨a, tab m (pw a f)⟩ : TOrbit))))) (M.bind (M.app (tab m (pw a f)) [x4.1]) (fun l1 => M.ret (.inl l1))))))) (bif matB (pw a f m) then .inl (tab (m + 1) (pw a f)) else .inr (.inr (false, oS a f m)) : List (List (List Int)) ⊕ (List (List (List Int)) ⊕ (Bool × TOrbit))) := by
  obtain ⟨k, rfl⟩ : ∃ k, m = k + 1 := ⟨m - 1, by omega⟩
  have h1 := hs.shp k
  have ew : w64 (((tab (k + 1) (pw a f)).length : Int) - 1) = (k : Int) := by rw [tab_len, w64_eq _ (by omega)]; omega
  rw [ew]
  refine M.Conv_bind (idx_tab (by omega)) (M.Conv_bind (x := pw a f (k + 1)) (impl_multiply_ok hs.mat.shp h1.1 h1.2) (M.Conv_bind (chk_pw hs) ?_))
  cases matB (pw a f (k + 1)) with
  | true => exact M.Conv_ite (fun t => by simp at t) (fun _ => M.Conv_bind (M.Conv_app (by simp [tab_len]; omega)) ((M.Conv_ret _).of (congrArg Sum.inl (tab_snoc (k + 1) (pw a f)))))
  | false => exact M.Conv_ite (fun _ => M.Conv_ret _) (fun t => by simp at t)
theorem grow_good {a f : List (List Int)} {w m k : Nat} (hs : Ser a f w) (hm : 1 ≤ m) (hm2 : m ≤ 500) (hk : k ≤ 500) (ok : okTo a f k) : M.Conv (impl_orbit_grow_B (oS a f m) (k : Int)) (true, oS a f (max m (k + 1))) := by
  unfold impl_orbit_grow_B oS
  refine M.Conv_bind (x := (Sum.inl (tab (max m (k + 1)) (pw a f)) : List (List (List Int)) ⊕ (Bool × TOrbit))) ?_ (by exact M.Conv_ret _)
  refine conv_up0 (fun m' => tab m' (pw a f)) (n := max m (k + 1)) (k0 := m) rfl (by omega) (fun m' h1 h2 => ?_) ?_
  · refine M.Conv_ite (fun _ => ?_) (fun t => ?_)
    · have := grow_round hs (m := m') (by omega) (by omega)
      rwa [ok m' (by omega)] at this
    · have := of_decide_eq_false t
      simp only [tab_len] at this
      omega
  · refine M.Conv_ite (fun t => ?_) (fun _ => M.Conv_ret _)
    have := of_decide_eq_true t
    simp only [tab_len] at this
    omega
theorem grow_bad {a f : List (List Int)} {w m k : Nat} (hs : Ser a f w) (hm : 1 ≤ m) (hm2 : m ≤ 500) (hk : k ≤ 500) (ok : okTo a f (m - 1)) (bad : ¬ okTo a f k) : ∃ s, M.Conv (impl_orbit_grow_B (oS a f m) (k : Int)) (false, s) := by
  obtain ⟨i, h1, h2, h3⟩ := first_bad bad
  have hmi : m ≤ i := by
    by_cases e : m ≤ i
    · exact e
    · have := ok i (by omega)
      rw [h2] at this; cases this
  refine ⟨oS a f i, ?_⟩
  unfold impl_orbit_grow_B
  refine M.Conv_bind (x := (Sum.inr (false, oS a f i) : List (List (List Int)) ⊕ (Bool × TOrbit))) ?_ (by exact M.Conv_ret _)
  refine conv_up0 (fun m' => tab m' (pw a f)) (n := i) (k0 := m) rfl hmi (fun m' h4 h5 => ?_) ?_
  · refine M.Conv_ite (fun _ => ?_) (fun t => ?_)
    · have := grow_round hs (m := m') (by omega) (by omega)
      rwa [h3 m' h5] at this
    · have := of_decide_eq_false t
      simp only [tab_len] at this
      omega
  · refine M.Conv_ite (fun _ => ?_) (fun t => ?_)
    · have := grow_round hs (m := i) (by omega) (by omega)
      rwa [h2] at this
    · have := of_decide_eq_false t
      simp only [tab_len] at this
      omega

def pairOK (g x y : Int) : Prop := (x = -1000000000000000 ∧ y = -1000000000000000) ∨ (x ≠ -1000000000000000 ∧ y ≠ -1000000000000000 ∧ y - x = g)
def ShiftM (A B : List (List Int)) (n w : Nat) (g : Int) : Prop := ∀ i j, i < n → j < w → pairOK g (entA A i j) (entA B i j)
theorem times_pair {x y g : Int} (hx : Bd 1000000 x) (hy : Bd 1000000 y) (hg : -4000000 ≤ g ∧ g ≤ 4000000) : timesI x g = y ↔ pairOK g x y := by
  unfold Bd at hx hy
  unfold pairOK timesI
  rw [show (g == (-1000000000000000)) = false by simp; omega, Bool.or_false]
  cases hz : (x == (-1000000000000000)) with
  | true =>
    have hz : x = -1000000000000000 := by simpa using hz
    simp only [cond_true]
    omega
  | false =>
    have hz : x ≠ -1000000000000000 := by simpa using hz
    simp only [cond_false]
    rw [w64_eq _ (by omega)]
    omega
theorem flat_at {A : List (List Int)} {w t : Nat} (h : Shp A w) (ht : t < A.length * w) : t / w < A.length ∧ t % w < w ∧ A.flatten[t]? = some (entA A (t / w) (t % w)) := by
  have hw := h.cols
  have h1 : t / w < A.length := (Nat.div_lt_iff_lt_mul (by omega)).2 ht
  have h2 : t % w < w := Nat.mod_lt _ (by omega)
  have := flat_get h.row h1 h2
  rw [Nat.div_add_mod'] at this
  exact ⟨h1, h2, this⟩
theorem idx_lt {n w i j : Nat} (hi : i < n) (hj : j < w) : i * w + j < n * w := by
  have := Nat.mul_le_mul_right w (show i + 1 ≤ n by omega)
  rw [Nat.add_mul] at this
  omega
theorem shift_iff {A B : List (List Int)} {w : Nat} (hA : Mat A w) (hB : Mat B w) (hl : B.length = A.length) {g : Int} (hg : -4000000 ≤ g ∧ g ≤ 4000000) : A.flatten.map (timesI · g) = B.flatten ↔ ShiftM A B A.length w g := by
  have lA := flat_len hA.shp.row
  have lB := flat_len hB.shp.row
  constructor
  · intro e i j hi hj
    have h1 := flat_get hA.shp.row hi hj
    have h2 := flat_get hB.shp.row (i := i) (j := j) (by omega) hj
    have h3 := congrArg (fun l : List Int => l[i * w + j]?) e
    simp only [List.getElem?_map, h1, h2, Option.map_some, Option.some.injEq] at h3
    exact (times_pair (mat_bd hA hi hj) (mat_bd hB (by omega) hj) hg).1 h3
  · intro h
    apply List.ext_getElem?
    intro t
    by_cases ht : t < A.length * w
    · obtain ⟨a1, a2, a3⟩ := flat_at hA.shp ht
      obtain ⟨b1, b2, b3⟩ := flat_at hB.shp (t := t) (by rw [hl]; exact ht)
      rw [List.getElem?_map, a3, b3, Option.map_some]
      congr 1
      exact (times_pair (mat_bd hA a1 a2) (mat_bd hB b1 b2) hg).2 (h _ _ a1 a2)
    · rw [List.getElem?_eq_none (by rw [List.length_map, lA]; omega), List.getElem?_eq_none (by rw [lB, hl]; omega)]
theorem flat_small {A : List (List Int)} {w : Nat} (h : Shp A w) : A.flatten.length = A.length * w ∧ A.length * w ≤ 100 := by
  have h1 := h.rows
  have h2 := h.cols
  exact ⟨flat_len h.row, Nat.mul_le_mul h1.2 h2.2⟩
theorem gap_tc {A B : List (List Int)} {w : Nat} (hA : Mat A w) (hB : Mat B w) (hl : B.length = A.length) : ∃ g b, M.Conv (spec_l07Gap A.flatten B.flatten) (g, b) ∧ (-2000000 ≤ g ∧ g ≤ 2000000) ∧ (b = true ↔ ShiftM A B A.length w g) ∧ (∀ g', ShiftM A B A.length w g' → ShiftM A B A.length w g) ∧
    (g = 0 ∨ ∃ i j, i < A.length ∧ j < w ∧ entA A i j ≠ -1000000000000000 ∧ entA B i j ≠ -1000000000000000 ∧ g = entA B i j - entA A i j) := by
  obtain ⟨lA, sA⟩ := flat_small hA.shp
  obtain ⟨lB, sB⟩ := flat_small hB.shp
  have key : M.TC (M.forI 0 (A.flatten.length : Int) (fun s => s) (fun i1 => (fun (s1 : Int) => M.bind (M.idx A.flatten i1) (fun x2 => M.bind (M.ite (x2 != (-1000000000000000)) (M.bind (M.idx B.flatten i1) (fun x4 => M.ret (x4 != (-1000000000000000)))) (M.ret false)) (fun x3 => M.ite x3 (M.bind (M.idx B.flatten i1) (fun x5 => M.bind (M.idx A.flatten i1) (fun x6 => M.ret (.inr (w64 (x5 - x6)))))) (M.ret (.inl s1)))))) 0)
      (fun g => (g = 0 ∧ ∀ i j, i < A.length → j < w → entA A i j = -1000000000000000 ∨ entA B i j = -1000000000000000) ∨ ∃ i j, i < A.length ∧ j < w ∧ entA A i j ≠ -1000000000000000 ∧ entA B i j ≠ -1000000000000000 ∧ g = entA B i j - entA A i j) := by
    refine M.TC_for (fun t s => s = 0 ∧ ∀ u : Nat, (u : Int) < t → u < A.length * w → entA A (u / w) (u % w) = -1000000000000000 ∨ entA B (u / w) (u % w) = -1000000000000000) _ (by omega) (by omega) ⟨rfl, fun u hu => by omega⟩ (fun t s h0 h1 hI => ?_) (fun t s ht hI => .inl ⟨hI.1, fun i j hi hj => ?_⟩)
    · obtain ⟨u, rfl⟩ : ∃ u : Nat, t = u := ⟨t.toNat, by omega⟩
      have hu : u < A.length * w := by omega
      obtain ⟨a1, a2, a3⟩ := flat_at hA.shp hu
      obtain ⟨b1, b2, b3⟩ := flat_at hB.shp (t := u) (by rw [hl]; exact hu)
      have bA := mat_bd hA a1 a2
      have bB := mat_bd hB b1 b2
      unfold Bd at bA bB
      have cA := M.Conv_idx a3
      have cB := M.Conv_idx b3
      refine M.TC_bindC cA (M.TC_bindC (x := (entA A (u / w) (u % w) != (-1000000000000000)) && (entA B (u / w) (u % w) != (-1000000000000000))) (M.Conv_ite (fun q => M.Conv_bind cB ((M.Conv_ret _).of (by rw [q]; rfl))) (fun q => (M.Conv_ret _).of (by rw [q]; rfl))) (M.TC_ite (fun q => M.TC_bindC cB (M.TC_bindC cA (M.TC_ret (.inr ⟨_, rfl, .inr ⟨u / w, u % w, a1, a2, ?_⟩⟩)))) (fun q => M.TC_ret (.inl ⟨_, rfl, hI.1, fun v hv hv2 => ?_⟩))))
      · simp only [Bool.and_eq_true, bne_iff_ne, ne_eq] at q
        exact ⟨q.1, q.2, w64_eq _ (by omega)⟩
      · by_cases e : v = u
        · subst e
          simp only [Bool.and_eq_false_iff, bne_eq_false_iff_eq] at q
          exact q
        · exact hI.2 v (by omega) hv2
    · have hlt := idx_lt hi hj
      have := hI.2 (i * w + j) (by omega) hlt
      rwa [show (i * w + j) / w = i by rw [Nat.mul_comm, Nat.mul_add_div (by omega), Nat.div_eq_of_lt hj, Nat.add_zero], show (i * w + j) % w = j by rw [Nat.mul_comm, Nat.mul_add_mod, Nat.mod_eq_of_lt hj]] at this
  obtain ⟨g, c1, c2⟩ := key
  have hg : -2000000 ≤ g ∧ g ≤ 2000000 := by
    rcases c2 with ⟨rfl, _⟩ | ⟨i, j, hi, hj, h1, h2, rfl⟩
    · omega
    · have bA := mat_bd hA hi hj
      have bB := mat_bd hB (i := i) (by omega) hj
      unfold Bd at bA bB
      omega
  refine ⟨g, decide (A.flatten.map (timesI · g) = B.flatten), ?_, hg, ?_, fun g' h' => ?_, ?_⟩
  · unfold spec_l07Gap
    exact M.Conv_bind c1 (M.Conv_bind (spec_l07Shift_ok g (by omega)) (M.Conv_bind (spec_l01Same_ok (by rw [List.length_map]; omega)) (M.Conv_ret _)))
  · rw [decide_eq_true_eq]
    exact shift_iff hA hB hl (by omega)
  · rcases c2 with ⟨_, h⟩ | ⟨i, j, hi, hj, h1, h2, h3⟩
    · intro i j hi hj
      rcases h' i j hi hj with h2 | ⟨h2, h3, _⟩
      · exact .inl h2
      · rcases h i j hi hj with h4 | h4
        · exact absurd h4 h2
        · exact absurd h4 h3
    · rcases h' i j hi hj with ⟨h4, _⟩ | ⟨_, _, h4⟩
      · exact absurd h4 h1
      · rw [h3, h4]; exact h'
  · exact c2.imp And.left id
theorem growth_tc {A B : List (List Int)} {w : Nat} (hA : Mat A w) (hB : Mat B w) (hl : B.length = A.length) : M.TC (impl_growthBetween A B) (fun r => (r.2 = true ∧ ShiftM A B A.length w r.1 ∧ (r.1 = 0 ∨ ∃ i j, i < A.length ∧ j < w ∧ entA A i j ≠ -1000000000000000)) ∨ (r = (0, false) ∧ ∀ g, ¬ ShiftM A B A.length w g)) := by
  have hr := hA.rows
  have hc := hA.cols
  let J : Nat → Nat → Int × Bool → Prop := fun i j s => (s.2 = false ∧ s.1 = 0 ∧ ∀ p q, p < A.length → q < w → (p < i ∨ p = i ∧ q < j) → entA A p q = -1000000000000000 ∧ entA B p q = -1000000000000000) ∨
    (s.2 = true ∧ (∀ p q, p < A.length → q < w → (p < i ∨ p = i ∧ q < j) → pairOK s.1 (entA A p q) (entA B p q)) ∧ ∃ p q, p < A.length ∧ q < w ∧ entA A p q ≠ -1000000000000000 ∧ entA B p q ≠ -1000000000000000 ∧ entA B p q - entA A p q = s.1)
  let X : Int × Bool → Prop := fun r => r = (0, false) ∧ ∀ g, ¬ ShiftM A B A.length w g
  unfold impl_growthBetween
  refine M.TC_bind (Mid := fun (r : (Int × Bool) ⊕ (Int × Bool)) => match r with | .inl s => J A.length 0 s | .inr r => X r) (M.TC_for (fun i s => J i.toNat 0 s) _ (by omega) (by omega) (.inl ⟨rfl, rfl, fun p q _ _ h => by simp at h⟩) (fun i s h0 h1 hI => ?_) (fun i s hi hI => ?_)) fun r hr => ?_
  · obtain ⟨i, rfl⟩ : ∃ u : Nat, i = u := ⟨i.toNat, by omega⟩
    simp only [Int.toNat_natCast] at hI
    have hi : i < A.length := by omega
    have hrow := rowN_get hi
    have hrl := (hA.row _ (List.mem_of_getElem? hrow)).1
    refine M.TC_bindC (get_row hrow) (M.TC_bind (Mid := fun (r : (Int × Bool) ⊕ (Int × Bool)) => match r with | .inl s => J (i + 1) 0 s | .inr r => X r) (M.TC_for (fun j s => J i j.toNat s) _ (by omega) (by omega) hI (fun j s g0 g1 hJ => ?_) (fun j s hj hJ => ?_)) fun r hr => ?_)
    · obtain ⟨j, rfl⟩ : ∃ u : Nat, j = u := ⟨j.toNat, by omega⟩
      simp only [Int.toNat_natCast] at hJ
      have hj : j < w := by omega
      obtain ⟨ra, a1, _, a2⟩ := ent_read hA.shp (i := i) (j := j) hi hj
      have ea : ra = rowN A i := (get_row hrow).unique a1 |>.symm
      subst ea
      obtain ⟨rb, b1, _, b2⟩ := ent_read hB.shp (i := i) (j := j) (by omega) hj
      have bA := mat_bd hA hi hj
      have bB := mat_bd hB (i := i) (by omega) hj
      unfold Bd at bA bB
      have split : ∀ {p q : Nat}, (p < i ∨ p = i ∧ q < j + 1) → (p < i ∨ p = i ∧ q < j) ∨ (p = i ∧ q = j) := fun h => by omega
      refine M.TC_bindC a2 (M.TC_bindC b1 (M.TC_bindC b2 (M.TC_ite (fun q => M.TC_ret (.inl ⟨_, rfl, ?_⟩)) (fun q => M.TC_ite (fun q2 => M.TC_ret (.inr ⟨_, rfl, rfl, fun g hg => ?_⟩)) (fun q2 => M.TC_ret (.inl ⟨_, rfl, ?_⟩))))))
      · simp only [Bool.and_eq_true, beq_iff_eq] at q
        rw [show ((j : Int) + 1).toNat = j + 1 by omega]
        rcases hJ with ⟨s1, s2, s3⟩ | ⟨s1, s2, s3⟩
        · refine .inl ⟨s1, s2, fun p q' hp hq h => ?_⟩
          rcases split h with h | ⟨rfl, rfl⟩
          · exact s3 p q' hp hq h
          · exact q
        · refine .inr ⟨s1, fun p q' hp hq h => ?_, s3⟩
          rcases split h with h | ⟨rfl, rfl⟩
          · exact s2 p q' hp hq h
          · exact .inl q
      · have h1 := hg i j hi hj
        simp only [Bool.and_eq_false_iff, beq_eq_false_iff_ne, ne_eq] at q
        simp only [Bool.or_eq_true, beq_iff_eq, Bool.and_eq_true, bne_iff_ne, ne_eq] at q2
        rcases h1 with ⟨e1, e2⟩ | ⟨e1, e2, e3⟩
        · rcases q with q | q
          · exact q e1
          · exact q e2
        · rcases q2 with (q2 | q2) | ⟨q2, q3⟩
          · exact e1 q2
          · exact e2 q2
          · rcases hJ with ⟨s1, _⟩ | ⟨_, _, p, q', hp, hq, n1, n2, n3⟩
            · rw [s1] at q2; cases q2
            · rcases hg p q' hp hq with ⟨e4, _⟩ | ⟨_, _, e4⟩
              · exact n1 e4
              · rw [w64_eq _ (by omega)] at q3
                omega
      · simp only [Bool.and_eq_false_iff, beq_eq_false_iff_ne, ne_eq] at q
        simp only [Bool.or_eq_false_iff, beq_eq_false_iff_ne, ne_eq, Bool.and_eq_false_iff, bne_eq_false_iff_eq] at q2
        obtain ⟨⟨q4, q5⟩, q3⟩ := q2
        rw [show ((j : Int) + 1).toNat = j + 1 by omega]
        rw [w64_eq _ (by omega)] at q3 ⊢
        refine .inr ⟨rfl, fun p q' hp hq h => ?_, i, j, hi, hj, q4, q5, rfl⟩
        rcases split h with h | ⟨rfl, rfl⟩
        · rcases hJ with ⟨_, _, s3⟩ | ⟨s1, s2, _⟩
          · exact .inl (s3 p q' hp hq h)
          · rcases q3 with q3 | q3
            · rw [s1] at q3; cases q3
            · rw [q3]; exact s2 p q' hp hq h
        · exact .inr ⟨q4, q5, rfl⟩
    · have hjw : j = (w : Int) := by clear hJ hI; omega
      subst hjw
      simp only [Int.toNat_natCast] at hJ
      show J (i + 1) 0 s
      rcases hJ with ⟨s1, s2, s3⟩ | ⟨s1, s2, s3⟩
      · exact .inl ⟨s1, s2, fun p q hp hq h => s3 p q hp hq (by omega)⟩
      · exact .inr ⟨s1, fun p q hp hq h => s2 p q hp hq (by omega), s3⟩
    · cases r with
      | inl s => exact M.TC_ret (.inl ⟨_, rfl, by rw [show ((i : Int) + 1).toNat = i + 1 by omega]; exact hr⟩)
      | inr r => exact M.TC_ret (.inr ⟨_, rfl, hr⟩)
  · have hiw : i = (A.length : Int) := by clear hI; omega
    subst hiw
    simpa using hI
  · cases r with
    | inr r => exact M.TC_ret (.inr hr)
    | inl s =>
      refine M.TC_ret (.inl ⟨rfl, ?_, ?_⟩)
      · rcases hr with ⟨s1, s2, s3⟩ | ⟨s1, s2, s3⟩
        · exact fun i j hi hj => .inl (s3 i j hi hj (.inl hi))
        · exact fun i j hi hj => s2 i j hi hj (.inl hi)
      · rcases hr with ⟨s1, s2, s3⟩ | ⟨s1, s2, p, q, hp, hq, n1, _⟩
        · exact .inl s2
        · exact .inr ⟨p, q, hp, hq, n1⟩
/-- both ways of looking for the shift -/
theorem gap_same {A B : List (List Int)} {w : Nat} (hA : Mat A w) (hB : Mat B w) (hl : B.length = A.length) : ∃ g b, M.Conv (spec_l07Gap A.flatten B.flatten) (g, b) ∧ M.Conv (impl_growthBetween A B) (bif b then g else 0, b) ∧ (-2000000 ≤ g ∧ g ≤ 2000000) ∧ (b = true ↔ ShiftM A B A.length w g) ∧ (∀ g', ShiftM A B A.length w g' → b = true ∧ (g' = g ∨ ∀ i j, i < A.length → j < w → entA A i j = -1000000000000000)) := by
  obtain ⟨g, b, c1, c2, c3, c4, c5⟩ := gap_tc hA hB hl
  obtain ⟨r, d1, d2⟩ := growth_tc hA hB hl
  have two : ∀ g', ShiftM A B A.length w g' → g' = g ∨ ∀ i j, i < A.length → j < w → entA A i j = -1000000000000000 := fun g' h' => by
    by_cases hn : ∃ i j, i < A.length ∧ j < w ∧ entA A i j ≠ -1000000000000000
    · obtain ⟨i, j, hi, hj, hn⟩ := hn
      have h1 := h' i j hi hj
      have h2 := c4 g' h' i j hi hj
      unfold pairOK at h1 h2
      left; omega
    · right
      intro i j hi hj
      by_cases e : entA A i j = -1000000000000000
      · exact e
      · exact absurd ⟨i, j, hi, hj, e⟩ hn
  refine ⟨g, b, c1, d1.of ?_, c2, c3, fun g' h' => ⟨c3.2 (c4 g' h'), two g' h'⟩⟩
  obtain ⟨r1, r2⟩ := r
  rcases d2 with ⟨e1, e2, e3⟩ | ⟨e1, e2⟩
  · simp only at e1 e2 e3
    subst e1
    have hb := c3.2 (c4 r1 e2)
    rw [hb]
    refine Prod.ext ?_ rfl
    show r1 = g
    rcases two r1 e2 with h | h
    · exact h
    · rcases e3 with e3 | ⟨i, j, hi, hj, e3⟩
      · rcases c5 with c5 | ⟨i, j, hi, hj, n1, _⟩
        · omega
        · exact absurd (h i j hi hj) n1
      · exact absurd (h i j hi hj) e3
  · rw [e1]
    cases b with
    | false => rfl
    | true => exact absurd (c3.1 rfl) (e2 g)

def FQ (a f : List (List Int)) (w : Nat) (r : Int × Int × Int × Int × TL07series) (r' : TRepeat × Int × TOrbit) : Prop :=
  r.1 = r'.1.at_ ∧ r.2.1 = r'.1.period ∧ r.2.2.1 = r'.1.growth ∧ r.2.2.2.1 = r'.2.1 ∧ (r'.2.1 = 0 → ∃ k c m : Nat, r'.1.at_ = k ∧ r'.1.period = c ∧ 1 ≤ c ∧ k + c ≤ 100 ∧ k + c < m ∧ m ≤ 101 ∧ okTo a f (m - 1) ∧ (-2000000 ≤ r'.1.growth ∧ r'.1.growth ≤ 2000000) ∧
    ShiftM (pw a f k) (pw a f (k + c)) a.length w r'.1.growth ∧ r.2.2.2.2 = sS a f m ∧ r'.2.2 = oS a f m ∧ (2 ≤ c → ∀ g', ¬ ShiftM (pw a f k) (pw a f (k + 1)) a.length w g') ∧ (r'.1.growth = 0 ∨ ∃ i j, i < a.length ∧ j < w ∧ entA (pw a f k) i j ≠ -1000000000000000))
theorem Ser.pm {a f : List (List Int)} {w k : Nat} (hs : Ser a f w) (ok : okTo a f k) {i : Nat} (hi : i ≤ k) : Mat (pw a f i) w := by
  have := matB_mat (ok i hi)
  rwa [shp_width (hs.shp i).1] at this
theorem find_rel {a f : List (List Int)} {w : Nat} (hs : Ser a f w) : Rel (spec_l07Find_B (sS a f 1)) (impl_orbit_firstRepeat_B (oS a f 1)) (FQ a f w) := by
  unfold spec_l07Find_B impl_orbit_firstRepeat_B
  simp only [at_same]
  let Q1 : ((List (List Int)) × (List (List Int))) ⊕ (Int × Int × Int × Int × TL07series) → (List (List (List Int))) ⊕ (TRepeat × Int × TOrbit) → Prop := fun y y' => (∃ s s', y = .inl s ∧ y' = .inl s') ∨ ∃ r r', y = .inr r ∧ y' = .inr r' ∧ FQ a f w r r'
  refine Rel.bind (P := Q1) (Rel.for (n := 100) (fun i t t' => ∃ m, (i = 0 ∧ m = 1 ∨ m = 101) ∧ okTo a f (m - 1) ∧ t = (pw a f (m - 1), tab m (fl a f)) ∧ t' = tab m (pw a f)) (by omega) ⟨1, .inl ⟨rfl, rfl⟩, hs.zero, rfl, rfl⟩ (fun i t t' hi hR => ?_) (fun t t' _ => .inl ⟨_, _, rfl, rfl⟩)) fun y y' hy => ?_
  · obtain ⟨m, hm, ok, rfl, rfl⟩ := hR
    have hm1 : 1 ≤ m ∧ m ≤ 101 := by omega
    have oki : okTo a f i := by
      rcases hm with ⟨rfl, rfl⟩ | rfl
      · exact hs.zero
      · exact ok.mono (by omega)
    have hmax : max m (i + 1) = m := by omega
    have hat := at_good hs hm1.1 (by omega) (k := i) (by omega) oki
    rw [hmax] at hat
    refine Rel.left hat ?_
    let Q2 : ((List (List Int)) × (List (List Int)) × Int) ⊕ (Int × Int × Int × Int × TL07series) → ((List (List (List Int))) × Int) ⊕ (TRepeat × Int × TOrbit) → Prop := fun y y' => (∃ c : Int, okTo a f 100 ∧ y = .inl (pw a f 100, tab 101 (fl a f), c) ∧ y' = .inl (tab 101 (pw a f), c)) ∨ ∃ r r', y = .inr r ∧ y' = .inr r' ∧ FQ a f w r r'
    refine Rel.bind (P := Q2) (Rel.loop (fun t t' => ∃ m c : Nat, 1 ≤ c ∧ i + c ≤ 101 ∧ i + c ≤ m ∧ 1 ≤ m ∧ m ≤ 101 ∧ okTo a f (m - 1) ∧ t = (pw a f (m - 1), tab m (fl a f), (c : Int)) ∧ t' = (tab m (pw a f), (c : Int)) ∧ (2 ≤ c → ∀ g', ¬ ShiftM (pw a f i) (pw a f (i + 1)) a.length w g')) (fun t => (101 - t.2.2).toNat) ⟨m, 1, by omega, by omega, by omega, by omega, by omega, ok, rfl, rfl, fun h => by omega⟩ fun t t' hR => ?_) fun y y' hy => ?_
    · obtain ⟨m, c, c1, c2, c3, c4, c5, ok, rfl, rfl, hmin⟩ := hR
      have ew : w64 ((i : Int) + (c : Int)) = ((i + c : Nat) : Int) := by rw [w64_eq _ (by omega)]; omega
      simp only [ew]
      refine Rel.ite rfl (fun h => ?_) (fun h => ?_)
      · have h : i + c ≤ 100 := by have := of_decide_eq_true h; omega
        by_cases ok2 : okTo a f (i + c)
        · have g1 := at_good hs c4 (by omega) (k := i + c) (by omega) ok2
          have g2 := grow_good hs c4 (by omega) (k := i + c) (by omega) ok2
          have okm : okTo a f (max m (i + c + 1) - 1) := by
            by_cases e : m ≤ i + c + 1
            · rw [show max m (i + c + 1) - 1 = i + c by omega]; exact ok2
            · rw [show max m (i + c + 1) - 1 = m - 1 by omega]; exact ok
          have hmm : i + c < max m (i + c + 1) ∧ max m (i + c + 1) ≤ 101 := by omega
          generalize max m (i + c + 1) = m' at g1 g2 okm hmm
          have mi := hs.pm ok2 (i := i) (by omega)
          have mk := hs.pm ok2 (i := i + c) (by omega)
          have li := (hs.shp i).2
          have lk := (hs.shp (i + c)).2
          obtain ⟨g, b, k1, k2, k3, k4, k5⟩ := gap_same mi mk (by omega)
          obtain ⟨rg, rg1, rg2⟩ := growth_tc mi mk (by omega)
          have r1 : M.Conv (M.idx (oS a f m').list (i : Int)) (pw a f i) := idx_tab (by omega)
          have r2 : M.Conv (M.idx (oS a f m').list ((i + c : Nat) : Int)) (pw a f (i + c)) := idx_tab (by omega)
          refine Rel.left g1 (Rel.right g2 (Rel.iteL (fun t => by cases t) (fun _ => Rel.iteR (fun t => by cases t) (fun _ => Rel.left k1 (Rel.right r1 (Rel.right r2 (Rel.right k2 ?_)))))))
          cases b with
          | true =>
            refine Rel.iteL (fun _ => Rel.iteR (fun _ => Rel.ret (Round.off (.inr ⟨_, _, rfl, rfl, ?_⟩))) (fun t => by cases t)) (fun t => by cases t)
            refine ⟨rfl, rfl, rfl, rfl, fun _ => ⟨i, c, m', rfl, rfl, c1, h, hmm.1, hmm.2, okm, k3, ?_, rfl, rfl, hmin, ?_⟩⟩
            · have := k4.1 rfl
              rwa [li] at this
            · have e := M.Conv.unique rg1 k2
              rcases rg2 with q | q
              · rw [e] at q
                have := q.2.2
                rwa [li] at this
              · rw [e] at q
                have := congrArg Prod.snd q.1
                cases this
          | false =>
            refine Rel.iteL (fun t => by cases t) (fun _ => Rel.iteR (fun t => by cases t) (fun _ => Rel.ret (Round.on ⟨⟨m', c + 1, by omega, by omega, by omega, by omega, by omega, okm, ?_, ?_, fun _ => ?_⟩, ?_⟩)))
            · simp only [sS]
              rw [w64_eq _ (by omega)]; rfl
            · simp only [oS]
              rw [w64_eq _ (by omega)]; rfl
            · by_cases h1 : c = 1
              · subst h1
                intro g' hg'
                rw [← li] at hg'
                have := (k5 g' hg').1
                cases this
              · exact hmin (by omega)
            · simp only
              rw [w64_eq _ (by omega)]; omega
        · obtain ⟨s1, g1⟩ := at_bad hs c4 (by omega) (k := i + c) (by omega) ok ok2
          obtain ⟨s2, g2⟩ := grow_bad hs c4 (by omega) (k := i + c) (by omega) ok ok2
          refine Rel.left g1 (Rel.right g2 (Rel.iteL (fun _ => Rel.iteR (fun _ => Rel.ret (Round.off (.inr ⟨_, _, rfl, rfl, rfl, rfl, rfl, rfl, fun t => by simp at t⟩))) (fun t => by cases t)) (fun t => by cases t)))
      · have h : m = 101 := by have := of_decide_eq_false h; omega
        subst h
        exact Rel.ret (Round.off (.inl ⟨_, ok, rfl, rfl⟩))
    · rcases hy with ⟨c, ok2, rfl, rfl⟩ | ⟨r, r', rfl, rfl, q⟩
      · exact Rel.ret (Round.on ⟨101, .inr rfl, ok2, rfl, rfl⟩)
      · exact Rel.ret (Round.off (.inr ⟨_, _, rfl, rfl, q⟩))
  · rcases hy with ⟨s, s', rfl, rfl⟩ | ⟨r, r', rfl, rfl, q⟩
    · exact Rel.ret ⟨rfl, rfl, rfl, rfl, fun t => by simp at t⟩
    · exact Rel.ret q
theorem start_ok {a f : List (List Int)} {w : Nat} (hs : Ser a f w) : M.Conv (spec_l07Start a f) (sS a f 1) := by
  unfold spec_l07Start
  exact M.Conv_bind (spec_l07Flat_ok hs.fst.shp) (M.Conv_ret _)
def colX (x : List Int) : List (List Int) := matF x.length 1 fun i j => entA [x] j i
theorem ser_vec {a : List (List Int)} {x : List Int} (h : sqB a = true) (hx : vecB x = true) (hl : x.length = a.length) : Ser a (colX x) 1 := by
  simp only [vecB, Bool.and_eq_true, decide_eq_true_eq, List.all_eq_true] at hx
  refine ⟨sq_mat h, mat_of (by omega) (by omega) fun i j hi hj => ?_, by rw [colX, matF_len, hl]⟩
  obtain rfl : j = 0 := by omega
  have : x[i]? = some (x[i]'hi) := List.getElem?_eq_getElem _
  simp only [entA, List.getElem?_cons_zero, Option.getD_some, this]
  exact hx.2 _ (List.getElem_mem hi)
theorem col_ok {x : List Int} (hx : vecB x = true) : M.Conv (spec_l07Column x) (colX x) ∧ M.Conv (impl_transposed [x]) (colX x) := by
  simp only [vecB, Bool.and_eq_true, decide_eq_true_eq] at hx
  have hs : Shp [x] x.length := ⟨by simp, by omega, fun r hr => by simp at hr; subst hr; rfl⟩
  exact ⟨M.Conv_bind (spec_l02Turn_ok hs) (M.Conv_ret _), impl_transposed_ok hs⟩
def codeX (a : List (List Int)) (x : List Int) : Int := bif sqB a && vecB x then bif decide (x.length = a.length) then 0 else 5 else 1
theorem code_ok {a : List (List Int)} {x : List Int} (sa : smII a) (sx : smI x) : M.Conv (spec_l07Code a x) (codeX a x) ∧ M.Conv (impl_checkOrbit a x) (codeX a x) := by
  have hx : x.length ≤ 9223372036854775807 := by unfold smI at sx; omega
  have o1 : M.Conv (M.ite (!(sqB a)) (M.ret true) (M.bind (spec_l02Vector x) (fun x3 => M.ret (!x3)))) (!(sqB a && vecB x)) := (Conv_or (v := !(vecB x)) fun _ => M.Conv_bind (spec_l02Vector_ok hx) (M.Conv_ret _)).of (by rw [Bool.not_and])
  have o2 : M.Conv (M.ite (!(sqB a)) (M.ret true) (M.bind (impl_isVector x) (fun x3 => M.ret (!x3)))) (!(sqB a && vecB x)) := (Conv_or (v := !(vecB x)) fun _ => M.Conv_bind (impl_isVector_ok hx) (M.Conv_ret _)).of (by rw [Bool.not_and])
  have e : ((x.length : Int) != (a.length : Int)) = !(decide (x.length = a.length)) := by rw [Bool.eq_iff_iff]; simp; omega
  unfold spec_l07Code impl_checkOrbit codeX
  cases hb : (sqB a && vecB x) with
  | false =>
    rw [hb] at o1 o2
    exact ⟨M.Conv_bind (spec_l02Square_ok sa) (M.Conv_bind o1 (M.Conv_ite (fun _ => M.Conv_ret _) (fun t => by simp at t))), M.Conv_bind (impl_isSquare_ok sa) (M.Conv_bind o2 (M.Conv_ite (fun _ => M.Conv_ret _) (fun t => by simp at t)))⟩
  | true =>
    rw [hb] at o1 o2
    rw [e]
    cases decide (x.length = a.length) with
    | true => exact ⟨M.Conv_bind (spec_l02Square_ok sa) (M.Conv_bind o1 (M.Conv_ite (fun t => by simp at t) (fun _ => M.Conv_ite (fun t => by simp at t) (fun _ => M.Conv_ret _)))), M.Conv_bind (impl_isSquare_ok sa) (M.Conv_bind o2 (M.Conv_ite (fun t => by simp at t) (fun _ => M.Conv_ite (fun t => by simp at t) (fun _ => M.Conv_ret _))))⟩
    | false => exact ⟨M.Conv_bind (spec_l02Square_ok sa) (M.Conv_bind o1 (M.Conv_ite (fun t => by simp at t) (fun _ => M.Conv_ite (fun _ => M.Conv_ret _) (fun t => by simp at t)))), M.Conv_bind (impl_isSquare_ok sa) (M.Conv_bind o2 (M.Conv_ite (fun t => by simp at t) (fun _ => M.Conv_ite (fun _ => M.Conv_ret _) (fun t => by simp at t))))⟩
theorem codeX_zero {a : List (List Int)} {x : List Int} (h : codeX a x = 0) : sqB a = true ∧ vecB x = true ∧ x.length = a.length := by
  unfold codeX at h
  cases hb : (sqB a && vecB x) with
  | false => rw [hb] at h; cases h
  | true =>
    rw [hb] at h
    by_cases e : x.length = a.length
    · simp only [Bool.and_eq_true] at hb
      exact ⟨hb.1, hb.2, e⟩
    · rw [decide_eq_false e] at h; cases h
theorem vec_ok {a : List (List Int)} {x : List Int} (hx : vecB x = true) : M.Conv (impl_vectorOrbit a x) (oS a (colX x) 1) := by
  unfold impl_vectorOrbit
  exact M.Conv_bind (col_ok hx).2 (M.Conv_ret _)
theorem same_OrbitRepeats (a : List (List Int)) (_ : fitL (fitL inI64) a) (x : List Int) (_ : fitL inI64 x) (sa : smII a) (sx : smI x) : Two (spec_OrbitRepeats a x) (impl_OrbitRepeats a x) (fun _ => True) := by
  unfold spec_OrbitRepeats impl_OrbitRepeats
  obtain ⟨c1, c2⟩ := code_ok sa sx
  refine Two.bindC c1 c2 (Two.ite (fun _ => Two.ret _ trivial) (fun h => ?_))
  obtain ⟨h1, h2, h3⟩ := codeX_zero (by simpa using h)
  have hs := ser_vec h1 h2 h3
  obtain ⟨r, r', k1, k2, q1, q2, q3, q4, _⟩ := find_rel hs
  refine Two.left (col_ok h2).1 (Two.left (start_ok hs) (Two.left k1 (Two.right (vec_ok h2) (Two.right k2 ?_))))
  rw [q1, q2, q3, q4]
  exact Two.ret _ trivial
theorem same_OrbitRate (a : List (List Int)) (_ : fitL (fitL inI64) a) (x : List Int) (_ : fitL inI64 x) (sa : smII a) (sx : smI x) : Two (spec_OrbitRate a x) (impl_OrbitRate a x) (fun _ => True) := by
  obtain ⟨c1, c2⟩ := code_ok sa sx
  by_cases h : codeX a x = 0
  · obtain ⟨h1, h2, h3⟩ := codeX_zero h
    have hs := ser_vec h1 h2 h3
    obtain ⟨r, r', k1, k2, q1, q2, q3, q4, q5⟩ := find_rel hs
    have hS : M.Conv (spec_OrbitRepeats a x) (r'.1.at_, r'.1.period, r'.1.growth, r'.2.1) := by
      unfold spec_OrbitRepeats
      refine M.Conv_bind c1 (M.Conv_ite (fun t => by rw [h] at t; cases t) (fun _ => M.Conv_bind (col_ok h2).1 (M.Conv_bind (start_ok hs) (M.Conv_bind k1 ((M.Conv_ret _).of ?_)))))
      rw [q1, q2, q3, q4]
    unfold spec_OrbitRate impl_OrbitRate
    refine Two.left hS (Two.right c2 (Two.iteR (fun t => by rw [h] at t; cases t) (fun _ => Two.right (vec_ok h2) (Two.right k2 (Two.ite (fun _ => Two.ret _ trivial) (fun t => ?_))))))
    obtain ⟨k, c, m, e1, e2, e3, e4, e5, e6, _, e7, _⟩ := q5 (by simpa using t)
    refine Two.bind (ratio_same (by simp only; omega) (by simp only; omega)) fun u _ => ?_
    refine Two.bind (P := fun _ => True) ?_ fun v _ => Two.ret _ trivial
    unfold spec_l04Result impl_checkedRatio
    obtain ⟨b, b1, b2, _⟩ := isRatio_same u
    exact Two.bindC b1 b2 (Two.ite (fun _ => Two.ret _ trivial) (fun _ => Two.ret _ trivial))
  · have hS : M.Conv (spec_OrbitRepeats a x) (0, 0, 0, codeX a x) := by
      unfold spec_OrbitRepeats
      exact M.Conv_bind c1 (M.Conv_ite (fun _ => M.Conv_ret _) (fun t => absurd (by simpa using t) h))
    unfold spec_OrbitRate impl_OrbitRate
    exact Two.left hS (Two.right c2 (Two.ite (fun _ => Two.ret _ trivial) (fun t => absurd (by simpa using t) h)))

/-- a matrix of one column, turned -/
theorem col_flat {A : List (List Int)} (h : Shp A 1) : M.Conv (impl_transposed A) [A.flatten] := by
  refine (impl_transposed_ok h).of ?_
  have e : A.flatten = tab A.length fun j => entA A j 0 := tab_ext (by rw [flat_len h.row]; omega) fun j hj => by
    have := flat_get h.row hj (show 0 < 1 by omega)
    simpa using this
  rw [e]
  rfl
theorem flat_col {A : List (List Int)} (h : Shp A 1) : A.flatten = colL A 0 := tab_ext (by rw [flat_len h.row]; omega) fun j hj => by
  have := flat_get h.row hj (show 0 < 1 by omega)
  simpa using this
theorem fl_val {a f : List (List Int)} {k : Nat} (hs : Ser a f 1) (ok : matB (pw a f k) = true) : (fl a f k).all valB = true ∧ (fl a f k).length = a.length := by
  have hm := matB_mat ok
  rw [shp_width (hs.shp k).1] at hm
  have h := (hs.shp k).1
  have hl : (pw a f k).length = a.length := (hs.shp k).2
  unfold fl
  rw [flat_col h]
  refine ⟨?_, by unfold colL; rw [tab_len]; exact hl⟩
  rw [List.all_eq_true]
  exact colL_vals hm (by omega)
theorem draw7_ok {code : List Int} (hc : ByC code) {s : TL01source} (hs : Src code s) : M.TC (spec_l07Draw s) (fun r => MatS r.1 ∧ Src code r.2) := by
  unfold spec_l07Draw
  rw [hs.code_]
  refine M.TC_bind (next_ok hc hs 4 (by omega)) fun x hx => M.TC_bind (next_ok hc (hx.1.mk' rfl) 40 (by omega)) fun y hy => M.TC_ite (fun _ => ?_) (fun _ => ?_)
  · exact M.TC_bind (pick_ok hc (hy.1.mk' rfl) _ (by simp) (by simp) inI64 (by simp [inI64])) fun z hz => M.TC_ret ⟨⟨by simp, by simp [hz.2]⟩, hz.1.mk' rfl⟩
  · have e1 : w64 (1 + x.1) = ((x.1.toNat + 1 : Nat) : Int) := by rw [w64_eq _ (by omega)]; omega
    rw [e1]
    exact M.TC_bind (size_ok hc (hy.1.mk' rfl) _ _ (by omega) (by omega)) fun z hz => M.TC_ret ⟨hz.1, hz.2.mk' rfl⟩
theorem pair7_ok {code : List Int} (hc : ByC code) {s : TL01source} (hs : Src code s) : M.TC (spec_l07DrawPair s) (fun r => MatS r.1 ∧ VecS r.2.1 ∧ Src code r.2.2) := by
  unfold spec_l07DrawPair
  rw [hs.code_]
  refine M.TC_bind (draw7_ok hc hs) fun x hx => M.TC_bind (next_ok hc (hx.2.mk' rfl) 24 (by omega)) fun y hy => ?_
  have hl := hx.1.rows
  refine M.TC_bind (Mid := fun n => 0 ≤ n ∧ n ≤ 15) (M.TC_ite (fun _ => M.TC_ret ?_) (fun _ => M.TC_ret ?_)) fun n hn => M.TC_bind (vector_ok hc (hy.1.mk' rfl) _ hn.1 hn.2) fun z hz => M.TC_ret ⟨hx.1, hz.1, hz.2.mk' rfl⟩
  · rw [w64_eq _ (by omega)]; omega
  · omega
/-- what lies in a product of matrices of values -/
theorem mul_dot {A B : List (List Int)} {n w : Nat} (hA : Shp A n) (hB : Shp B w) (hn : B.length = n) (bA : ∀ i j, i < A.length → j < n → Bd 2000000 (entA A i j)) (bB : ∀ j k, j < n → k < w → Bd 2000000 (entA B j k)) {i k : Nat} (hi : i < A.length) (hk : k < w) :
    DotP (entA A i) (fun j => entA B j k) n (entA (mulM A B) i k) := by
  have hrl := hA.row _ (List.mem_of_getElem? (rowN_get hi))
  have hcl : (colL B k).length = B.length := tab_len _ _
  have he : entA (mulM A B) i k = dotL (colL B k) (rowN A i) := by
    rw [mulM_eq]
    exact entA_matF hi (by rw [shp_width hB]; exact hk)
  have := dotL_ok (x := colL B k) (row := rowN A i) (by omega) (fun j hj => by rw [nd_row hi]; exact bA i j hi (by omega)) (fun j hj => by rw [nd_col (by omega)]; exact bB j k (by omega) hk)
  rw [hrl, ← he] at this
  exact this.congr (fun j _ => nd_row hi) (fun j hj => nd_col (by omega))
theorem mul_bdd {A B : List (List Int)} {n w : Nat} (hA : Mat A n) (hB : Mat B w) (hn : B.length = n) {i k : Nat} (hi : i < A.length) (hk : k < w) : Bd 2000000 (entA (mulM A B) i k) := by
  have d := mul_dot hA.shp hB.shp hn (fun i j hi hj => bd_up (mat_bd hA hi hj)) (fun j k hj hk => bd_up (mat_bd hB (by omega) hk)) hi hk
  rcases d.on with e | ⟨j, hj, h1, h2, e⟩
  · exact .inl e
  · have b1 := mat_bd hA hi hj
    have b2 := mat_bd hB (i := j) (j := k) (by omega) hk
    unfold Bd at *
    omega
theorem dot_ne {u v : Nat → Int} {n : Nat} {s : Int} (hu : ∀ j, j < n → Bd 2000000 (u j)) (hv : ∀ j, j < n → Bd 2000000 (v j)) (h : DotP u v n s) {j : Nat} (hj : j < n) (h1 : u j ≠ -1000000000000000) (h2 : v j ≠ -1000000000000000) : s ≠ -1000000000000000 := by
  have := h.up j hj h1 h2
  have b1 := hu j hj
  have b2 := hv j hj
  unfold Bd at *
  omega
theorem mul_assoc {A B C : List (List Int)} {n m w : Nat} (hA : Mat A n) (hB : Mat B m) (hC : Mat C w) (h1 : B.length = n) (h2 : C.length = m) : mulM (mulM A B) C = mulM A (mulM B C) := by
  have sAB := mulM_shp hA.shp hB.shp
  have sBC := mulM_shp hB.shp hC.shp
  have lAB : (mulM A B).length = A.length := matF_len _ _ _
  have lBC : (mulM B C).length = B.length := matF_len _ _ _
  have b0 : ∀ i k, i < A.length → k < m → Bd 2000000 (entA (mulM A B) i k) := fun i k hi hk => mul_bdd hA hB h1 hi hk
  have b1 : ∀ i k, i < n → k < w → Bd 2000000 (entA (mulM B C) i k) := fun i k hi hk => mul_bdd hB hC h2 (by omega) hk
  have bA : ∀ i j, i < A.length → j < n → Bd 2000000 (entA A i j) := fun i j hi hj => bd_up (mat_bd hA hi hj)
  have bB : ∀ i j, i < n → j < m → Bd 2000000 (entA B i j) := fun i j hi hj => bd_up (mat_bd hB (by omega) hj)
  have bC : ∀ i j, i < m → j < w → Bd 2000000 (entA C i j) := fun i j hi hj => bd_up (mat_bd hC (by omega) hj)
  have sL := mulM_shp sAB hC.shp
  have sR := mulM_shp hA.shp sBC
  have lL : (mulM (mulM A B) C).length = A.length := (matF_len _ _ _).trans lAB
  have lR : (mulM A (mulM B C)).length = A.length := matF_len _ _ _
  rw [mat_eq sL, mat_eq sR, lL, lR]
  refine matF_congr fun i k hi hk => ?_
  have dL := mul_dot sAB hC.shp h2 (fun i j hi hj => b0 i j (by omega) hj) bC (i := i) (k := k) (by omega) hk
  have dR := mul_dot hA.shp sBC (by omega) bA b1 hi hk
  have dAB := fun l (hl : l < m) => mul_dot hA.shp hB.shp h1 bA bB (i := i) (k := l) hi hl
  have dBC := fun j (hj : j < n) => mul_dot hB.shp hC.shp h2 (fun i j hi hj => bB i j (by omega) hj) bC (i := j) (k := k) (by omega) hk
  have hle1 : entA (mulM (mulM A B) C) i k ≠ -1000000000000000 → entA (mulM A (mulM B C)) i k ≠ -1000000000000000 ∧ entA (mulM (mulM A B) C) i k ≤ entA (mulM A (mulM B C)) i k := fun hne => by
    obtain ⟨l, hl, n1, n2, e⟩ := dL.on.resolve_left hne
    obtain ⟨j, hj, n3, n4, e2⟩ := (dAB l hl).on.resolve_left n1
    have u1 := (dBC j hj).up l hl n4 n2
    have n5 := dot_ne (fun l hl => bB j l hj hl) (fun l hl => bC l k hl hk) (dBC j hj) hl n4 n2
    have u2 := dR.up j hj n3 n5
    have n6 := dot_ne (fun j hj => bA i j hi hj) (fun j hj => b1 j k hj hk) dR hj n3 n5
    exact ⟨n6, by omega⟩
  have hle2 : entA (mulM A (mulM B C)) i k ≠ -1000000000000000 → entA (mulM (mulM A B) C) i k ≠ -1000000000000000 ∧ entA (mulM A (mulM B C)) i k ≤ entA (mulM (mulM A B) C) i k := fun hne => by
    obtain ⟨j, hj, n1, n2, e⟩ := dR.on.resolve_left hne
    obtain ⟨l, hl, n3, n4, e2⟩ := (dBC j hj).on.resolve_left n2
    have u1 := (dAB l hl).up j hj n1 n3
    have n5 := dot_ne (fun j hj => bA i j hi hj) (fun j hj => bB j l hj hl) (dAB l hl) hj n1 n3
    have u2 := dL.up l hl n5 n4
    have n6 := dot_ne (fun l hl => b0 i l hi hl) (fun l hl => bC l k hl hk) dL hl n5 n4
    exact ⟨n6, by omega⟩
  by_cases e1 : entA (mulM (mulM A B) C) i k = -1000000000000000
  · by_cases e2 : entA (mulM A (mulM B C)) i k = -1000000000000000
    · rw [e1, e2]
    · exact absurd e1 (hle2 e2).1
  · have := hle1 e1
    have := hle2 this.1
    omega
structure Gr (g : TGraph) (n : Nat) : Prop where
  ev : g.Events = (n : Int)
  lo : 1 ≤ n
  hi : n ≤ 10
  len : g.Places.length ≤ 30
  pl : ∀ p ∈ g.Places, (0 ≤ p.From ∧ p.From < n) ∧ (0 ≤ p.To ∧ p.To < n) ∧ 0 ≤ p.Tokens ∧ p.Tokens ≤ 5
/-- a way from s of at most k places -/
inductive Wk (ps : List TPlace) (s : Int) : Nat → Int → Int → Prop
  | nil (k : Nat) : Wk ps s k s 0
  | step (k : Nat) (p : TPlace) (w : Int) : p ∈ ps → Wk ps s k p.From w → Wk ps s (k + 1) p.To (w + p.Tokens)
theorem Wk.mono {ps : List TPlace} {s : Int} {k : Nat} {v w : Int} (h : Wk ps s k v w) : ∀ {m : Nat}, k ≤ m → Wk ps s m v w := by
  induction h with
  | nil k => exact fun _ => .nil _
  | step k p w hp _ ih =>
    intro m hm
    obtain ⟨m', rfl⟩ : ∃ m', m = m' + 1 := ⟨m - 1, by omega⟩
    exact .step m' p w hp (ih (by omega))
def muL : List Int → Nat
  | [] => 0
  | x :: xs => (if x < 0 then 1000 else x.toNat) + muL xs
def cntL : List Int → Nat
  | [] => 0
  | x :: xs => (if x < 0 then 0 else 1) + cntL xs
theorem cnt_le : ∀ d : List Int, cntL d ≤ d.length
  | [] => Nat.le_refl _
  | x :: xs => by
    have := cnt_le xs
    simp only [cntL, List.length_cons]
    split <;> omega
theorem nd_cons (x : Int) (xs : List Int) (i : Nat) : nd (x :: xs) (i + 1) = nd xs i := by simp [nd]
theorem mu_set : ∀ {d : List Int} {i : Nat} {x : Int}, i < d.length → 0 ≤ x → x ≤ 900 → (nd d i < 0 ∨ x < nd d i) → muL (d.set i x) < muL d ∧ cntL (d.set i x) = cntL d + (if nd d i < 0 then 1 else 0)
  | y :: ys, 0, x, _, h0, h1, h => by
    have e : nd (y :: ys) 0 = y := by simp [nd]
    rw [e] at h ⊢
    simp only [List.set_cons_zero, muL, cntL]
    rw [if_neg (show ¬ x < 0 by omega), if_neg (show ¬ x < 0 by omega)]
    by_cases hy : y < 0
    · simp only [if_pos hy]; omega
    · simp only [if_neg hy]; omega
  | y :: ys, i + 1, x, hi, h0, h1, h => by
    rw [nd_cons] at h ⊢
    have := mu_set (d := ys) (i := i) (by simpa using hi) h0 h1 h
    simp only [List.set_cons_succ, muL, cntL]
    omega
theorem nd_set {d : List Int} {i v : Nat} {x : Int} (hi : i < d.length) : nd (d.set i x) v = if v = i then x else nd d v := by
  unfold nd
  by_cases e : v = i
  · subst e; rw [if_pos rfl, List.getElem?_set_self hi]; rfl
  · rw [if_neg e, List.getElem?_set_ne (by omega)]
structure DInv (ps : List TPlace) (s : Int) (n : Nat) (d : List Int) : Prop where
  len : d.length = n
  src : nd d s.toNat = 0
  way : ∀ v : Int, 0 ≤ v → v < n → nd d v.toNat = -1 ∨ (0 ≤ nd d v.toNat ∧ ∃ k, Wk ps s k v (nd d v.toNat))
  bd : ∀ v : Nat, v < n → nd d v ≤ 5 * ((cntL d : Int) - 1)
  one : 1 ≤ cntL d
theorem DInv.upd {g : TGraph} {s : Int} {n : Nat} {d : List Int} (hg : Gr g n) (hs : 0 ≤ s ∧ s < n) (h : DInv g.Places s n d) {p : TPlace} (hp : p ∈ g.Places) (hf : 0 ≤ nd d p.From.toNat) (ht : nd d p.To.toNat < 0 ∨ nd d p.From.toNat + p.Tokens < nd d p.To.toNat) :
    DInv g.Places s n (d.set p.To.toNat (nd d p.From.toNat + p.Tokens)) ∧ muL (d.set p.To.toNat (nd d p.From.toNat + p.Tokens)) < muL d := by
  obtain ⟨f1, t1, k0, k5⟩ := hg.pl p hp
  have hlt : p.To.toNat < d.length := by rw [h.len]; omega
  have hb := h.bd p.From.toNat (by omega)
  have hc := cnt_le d
  have hn := hg.hi
  have hl := h.len
  obtain ⟨m1, m2⟩ := mu_set (x := nd d p.From.toNat + p.Tokens) hlt (by omega) (by omega) ht
  refine ⟨⟨by rw [List.length_set]; exact h.len, ?_, fun v v0 v1 => ?_, fun v hv => ?_, by rw [m2]; have := h.one; omega⟩, m1⟩
  · rw [nd_set hlt]
    by_cases e : s.toNat = p.To.toNat
    · have := h.src
      rw [e] at this
      omega
    · rw [if_neg e]; exact h.src
  · rw [nd_set hlt]
    by_cases e : v.toNat = p.To.toNat
    · rw [if_pos e]
      right
      refine ⟨by omega, ?_⟩
      rcases h.way p.From f1.1 f1.2 with h1 | ⟨_, k, h1⟩
      · omega
      · obtain rfl : v = p.To := by omega
        exact ⟨k + 1, .step k p _ hp h1⟩
    · rw [if_neg e]; exact h.way v v0 v1
  · rw [nd_set hlt, m2]
    have := h.bd v hv
    by_cases e : v = p.To.toNat
    · rw [if_pos e]
      by_cases e2 : nd d p.To.toNat < 0
      · rw [if_pos e2]; omega
      · rw [if_neg e2]
        have := h.bd p.To.toNat (by omega)
        omega
    · rw [if_neg e]
      split <;> omega
theorem nodup_lt : ∀ (n : Nat) (l : List Nat), l.Nodup → (∀ v ∈ l, v < n) → l.length ≤ n
  | 0, [], _, _ => Nat.le_refl _
  | 0, v :: _, _, h => absurd (h v List.mem_cons_self) (by omega)
  | n + 1, l, hd, h => by
    by_cases hm : n ∈ l
    · have := nodup_lt n (l.erase n) (hd.erase n) (fun v hv => by
        have h1 := (hd.mem_erase_iff).1 hv
        have := h v h1.2
        have := h1.1
        omega)
      rw [List.length_erase_of_mem hm] at this
      omega
    · have := nodup_lt n l hd (fun v hv => by
        have := h v hv
        have : v ≠ n := fun e => hm (e ▸ hv)
        omega)
      omega
theorem chain {P : Nat → Nat → Prop} {n s : Nat} (hs : s < n) (h0 : P 0 s) (mono : ∀ k v, P k v → P (k + 1) v) (step : ∀ k, (∀ v, v < n → P (k + 1) v → P k v) → ∀ v, v < n → P (k + 2) v → P (k + 1) v) : ∀ k v, v < n → P k v → P n v := by
  have key : ∀ k, k ≤ n → (∃ j, j < k ∧ ∀ v, v < n → P (j + 1) v → P j v) ∨ ∃ l : List Nat, l.Nodup ∧ l.length = k + 1 ∧ ∀ v ∈ l, v < n ∧ P k v := by
    intro k
    induction k with
    | zero => exact fun _ => .inr ⟨[s], by simp, rfl, fun v hv => by simp at hv; subst hv; exact ⟨hs, h0⟩⟩
    | succ k ih =>
      intro hk
      rcases ih (by omega) with ⟨j, hj, h⟩ | ⟨l, l1, l2, l3⟩
      · exact .inl ⟨j, by omega, h⟩
      · by_cases hst : ∀ v, v < n → P (k + 1) v → P k v
        · exact .inl ⟨k, by omega, hst⟩
        · right
          have : ∃ v, v < n ∧ P (k + 1) v ∧ ¬ P k v := by
            refine Classical.byContradiction fun hc => hst fun v hv hp => Classical.byContradiction fun hnp => hc ⟨v, hv, hp, hnp⟩
          obtain ⟨v, hv, hp, hnp⟩ := this
          refine ⟨v :: l, List.nodup_cons.2 ⟨fun hm => hnp (l3 v hm).2, l1⟩, by simp [l2], fun u hu => ?_⟩
          rcases List.mem_cons.1 hu with rfl | hu
          · exact ⟨hv, hp⟩
          · exact ⟨(l3 u hu).1, mono _ _ (l3 u hu).2⟩
  obtain ⟨j, hj, hst⟩ : ∃ j, j < n ∧ ∀ v, v < n → P (j + 1) v → P j v := by
    rcases key n (Nat.le_refl _) with h | ⟨l, l1, l2, l3⟩
    · exact h
    · have := nodup_lt n l l1 fun v hv => (l3 v hv).1
      omega
  have up : ∀ d k v, P k v → P (k + d) v := by
    intro d
    induction d with
    | zero => exact fun k v h => h
    | succ d ih => exact fun k v h => mono _ _ (ih k v h)
  have stay : ∀ d, ∀ v, v < n → P (j + d + 1) v → P (j + d) v := by
    intro d
    induction d with
    | zero => exact hst
    | succ d ih => exact step (j + d) ih
  have down : ∀ d v, v < n → P (j + d) v → P j v := by
    intro d
    induction d with
    | zero => exact fun v _ h => h
    | succ d ih => exact fun v hv h => ih v hv (stay d v hv h)
  intro k v hv hp
  have h1 : P (j + k) v := by have := up j k v hp; rwa [Nat.add_comm] at this
  have h2 := down k v hv h1
  have := up (n - j) j v h2
  rwa [show j + (n - j) = n by omega] at this
inductive RK (E : Nat → Nat → Prop) (n v : Nat) : Nat → Nat → Prop
  | nil (k : Nat) : RK E n v k v
  | step (k j i : Nat) : RK E n v k j → j < n → i < n → E j i → RK E n v (k + 1) i
theorem RK.mono {E : Nat → Nat → Prop} {n v k i : Nat} (h : RK E n v k i) : ∀ {m : Nat}, k ≤ m → RK E n v m i := by
  induction h with
  | nil k => exact fun _ => .nil _
  | step k j i _ hj hi he ih =>
    intro m hm
    obtain ⟨m', rfl⟩ : ∃ m', m = m' + 1 := ⟨m - 1, by omega⟩
    exact .step m' j i (ih (by omega)) hj hi he
theorem RK.short {E : Nat → Nat → Prop} {n v k i : Nat} (hv : v < n) (h : RK E n v k i) (hi : i < n) : RK E n v n i := by
  refine chain (P := fun k i => RK E n v k i) hv (.nil 0) (fun k i h => h.mono (by omega)) (fun k hst i hi h => ?_) k i hi h
  generalize e : k + 2 = m at h
  cases h with
  | nil => exact .nil _
  | step k' j i hj1 hj hi he =>
    obtain rfl : k' = k + 1 := by omega
    exact .step k j i (hst j hj hj1) hj hi he
def Rch (E : Nat → Nat → Prop) (n v i : Nat) : Prop := ∃ k, RK E n v k i
theorem Rch.step {E : Nat → Nat → Prop} {n v j i : Nat} (h : Rch E n v j) (hj : j < n) (hi : i < n) (he : E j i) : Rch E n v i := let ⟨k, h⟩ := h; ⟨k + 1, .step k j i h hj hi he⟩
theorem Rch.trans {E : Nat → Nat → Prop} {n v j i : Nat} (h : Rch E n v j) (g : Rch E n j i) : Rch E n v i := by
  obtain ⟨k, g⟩ := g
  induction g with
  | nil => exact h
  | step k j' i' _ hj hi he ih => exact ih.step hj hi he
/-- below the line through i and j -/
def Sup (F : Int → Prop) (y : Int → Int) (i j : Int) : Prop := ∀ p, F p → (y p - y i) * (j - i) ≤ (y j - y i) * (p - i)
/-- the line through i and j is steeper than the line through j and k -/
abbrev Stp (y : Int → Int) (i j k : Int) : Prop := (y k - y j) * (j - i) < (y j - y i) * (k - j)
/-- vertices, the last one first -/
def HullR (F : Int → Prop) (y : Int → Int) : List Int → Prop
  | [] => True
  | [t] => F t ∧ ∀ p, F p → t ≤ p
  | j :: i :: r => F j ∧ i < j ∧ Sup F y i j ∧ (∀ h r', r = h :: r' → Stp y h i j) ∧ HullR F y (i :: r)
theorem mul_le_cancel {a b c : Int} (hc : 0 < c) (h : a * c ≤ b * c) : a ≤ b := Int.le_of_mul_le_mul_right h hc
/-- slopes go down: from (h, i) over (i, j) to a point p right of i that is below the line (i, j) -/
theorem below_next {y : Int → Int} {h i j p : Int} (h1 : h < i) (h2 : i < j) (hp : i ≤ p) (st : Stp y h i j) (hb : (y p - y i) * (j - i) ≤ (y j - y i) * (p - i)) : (y p - y i) * (i - h) ≤ (y i - y h) * (p - i) := by
  unfold Stp at st
  refine mul_le_cancel (c := j - i) (by omega) ?_
  have a1 : (y p - y i) * (i - h) * (j - i) = (y p - y i) * (j - i) * (i - h) := by rw [Int.mul_assoc, Int.mul_comm (i - h), ← Int.mul_assoc]
  have a2 := Int.mul_le_mul_of_nonneg_right hb (show 0 ≤ i - h by omega)
  have a3 := Int.mul_le_mul_of_nonneg_right (Int.le_of_lt st) (show 0 ≤ p - i by omega)
  have a4 : (y j - y i) * (p - i) * (i - h) = (y j - y i) * (i - h) * (p - i) := by rw [Int.mul_assoc, Int.mul_comm (p - i), ← Int.mul_assoc]
  have a5 : (y i - y h) * (j - i) * (p - i) = (y i - y h) * (p - i) * (j - i) := by rw [Int.mul_assoc, Int.mul_comm (j - i), ← Int.mul_assoc]
  omega
/-- one point more, right of all: the lines stay above -/
theorem HullR.more {F : Int → Prop} {y : Int → Int} {k : Int} : ∀ {j i : Int} {r : List Int}, HullR F y (j :: i :: r) → i < k → (y k - y i) * (j - i) ≤ (y j - y i) * (k - i) → HullR (fun p => F p ∨ p = k) y (j :: i :: r)
  | j, i, [], ⟨f, h1, h2, h3, g1, g2⟩, hk, hb => ⟨.inl f, h1, fun p hp => by
      rcases hp with hp | rfl
      · exact h2 p hp
      · exact hb, h3, .inl g1, fun p hp => by
      rcases hp with hp | rfl
      · exact g2 p hp
      · omega⟩
  | j, i, h :: r, ⟨f, h1, h2, h3, g⟩, hk, hb => ⟨.inl f, h1, fun p hp => by
      rcases hp with hp | rfl
      · exact h2 p hp
      · exact hb, h3, by
      have hi : h < i := by cases r <;> exact g.2.1
      have := below_next hi h1 (Int.le_of_lt hk) (h3 h r rfl) hb
      refine HullR.more g (by omega) ?_
      have e1 : (y k - y h) * (i - h) = (y k - y i) * (i - h) + (y i - y h) * (i - h) := by rw [← Int.add_mul]; congr 1; omega
      have e2 : (y i - y h) * (k - h) = (y i - y h) * (k - i) + (y i - y h) * (i - h) := by rw [← Int.mul_add]; congr 1; omega
      omega⟩
theorem HullR.head {F : Int → Prop} {y : Int → Int} {j : Int} {r : List Int} (h : HullR F y (j :: r)) : F j := by
  cases r <;> exact h.1
def yC (c : List Int) (p : Int) : Int := (c[p.toNat]?).getD 0
structure TsOK (c ts : List Int) : Prop where
  bd : ∀ t ∈ ts, termB c c.length t
  inc : List.Pairwise (fun a b => a < b) ts
  ne : ts ≠ []
theorem TsOK.at {c ts : List Int} (h : TsOK c ts) {q : Nat} {t : Int} (ht : ts[q]? = some t) : 0 ≤ t ∧ t < c.length ∧ (-1000000 ≤ yC c t ∧ yC c t ≤ 1000000) := by
  obtain ⟨a, b, x, hx, hb⟩ := h.bd t (List.mem_of_getElem? ht)
  refine ⟨a, b, ?_⟩
  unfold yC
  rw [hx]
  exact finB_bd hb
theorem TsOK.lt {c ts : List Int} (h : TsOK c ts) {p q : Nat} {s t : Int} (hs : ts[p]? = some s) (ht : ts[q]? = some t) (hpq : p < q) : s < t := by
  obtain ⟨h1, e1⟩ := List.getElem?_eq_some_iff.1 hs
  obtain ⟨h2, e2⟩ := List.getElem?_eq_some_iff.1 ht
  have := List.pairwise_iff_getElem.1 h.inc p q h1 h2 hpq
  rw [e1, e2] at this; exact this
structure GrS (g : TGraph) : Prop where
  ok : okTGraph g
  len : g.Places.length ≤ 40
theorem GrS.sm {g : TGraph} (h : GrS g) : smG g := by have := h.len; simp only [smG, smP]; omega
inductive Chn (a : List (List Int)) (n : Nat) : List Nat → Int → Prop
  | one (v : Nat) : v < n → Chn a n [v] 0
  | cons (u v : Nat) (r : List Nat) (w : Int) : u < n → entA a v u ≠ -1000000000000000 → Chn a n (v :: r) w → Chn a n (u :: v :: r) (entA a v u + w)
theorem Chn.lt {a : List (List Int)} {n : Nat} {l : List Nat} {w : Int} (h : Chn a n l w) : ∀ x ∈ l, x < n := by
  induction h with
  | one v hv => intro x hx; simp at hx; subst hx; exact hv
  | cons u v r w hu _ _ ih =>
    intro x hx
    rcases List.mem_cons.1 hx with rfl | hx
    · exact hu
    · exact ih x hx
theorem Chn.unique {a : List (List Int)} {n : Nat} {l : List Nat} {w : Int} (h : Chn a n l w) : ∀ {w' : Int}, Chn a n l w' → w = w' := by
  induction h with
  | one v hv => intro w' h'; cases h'; rfl
  | cons u v r w hu _ _ ih => intro w' h'; cases h' with | cons _ _ _ w2 _ _ h2 => rw [ih h2]
theorem Chn.append {a : List (List Int)} {n : Nat} {v : Nat} {z : List Nat} {w2 : Int} (h2 : Chn a n (v :: z) w2) : ∀ {x : List Nat} {w1 : Int}, Chn a n (x ++ [v]) w1 → Chn a n (x ++ v :: z) (w1 + w2)
  | [], w1, h1 => by cases h1; rw [Int.zero_add]; exact h2
  | [u], w1, h1 => by
    cases h1 with
    | cons _ _ _ w hu ha h =>
      have := Chn.append h2 (x := []) h
      rw [Int.add_assoc]; exact .cons u v z _ hu ha this
  | u :: u' :: x, w1, h1 => by
    cases h1 with
    | cons _ _ _ w hu ha h =>
      have := Chn.append h2 (x := u' :: x) h
      rw [Int.add_assoc]; exact .cons u u' _ _ hu ha this
theorem Chn.split {a : List (List Int)} {n : Nat} {v : Nat} {z : List Nat} : ∀ {x : List Nat} {w : Int}, Chn a n (x ++ v :: z) w → ∃ w1 w2, w = w1 + w2 ∧ Chn a n (x ++ [v]) w1 ∧ Chn a n (v :: z) w2
  | [], w, h => ⟨0, w, by omega, .one v (h.lt v (by simp)), h⟩
  | [u], w, h => by
    cases h with
    | cons _ _ _ w' hu ha h => exact ⟨entA a v u, w', rfl, by have := Chn.cons u v [] 0 hu ha (.one v (h.lt v (by simp))); rwa [Int.add_zero] at this, h⟩
  | u :: u' :: x, w, h => by
    cases h with
    | cons _ _ _ w' hu ha h =>
      obtain ⟨w1, w2, rfl, h1, h2⟩ := Chn.split (x := u' :: x) h
      exact ⟨entA a u' u + w1, w2, by omega, .cons u u' _ _ hu ha h1, h2⟩
/-- a closed chain -/
def Cl (a : List (List Int)) (n : Nat) (l : List Nat) (w : Int) : Prop := ∃ h r, l = h :: r ∧ Chn a n (l ++ [h]) w
theorem Cl.ne {a : List (List Int)} {n : Nat} {l : List Nat} {w : Int} (h : Cl a n l w) : l ≠ [] := by obtain ⟨_, _, rfl, _⟩ := h; simp
theorem Cl.lt {a : List (List Int)} {n : Nat} {l : List Nat} {w : Int} (h : Cl a n l w) : ∀ x ∈ l, x < n := by
  obtain ⟨_, _, rfl, h⟩ := h
  exact fun x hx => h.lt x (List.mem_append.2 (.inl hx))
theorem Cl.unique {a : List (List Int)} {n : Nat} {l : List Nat} {w w' : Int} (h : Cl a n l w) (h' : Cl a n l w') : w = w' := by
  obtain ⟨_, _, rfl, h⟩ := h
  obtain ⟨_, _, e, h'⟩ := h'
  cases e
  exact h.unique h'
theorem Cl.rot {a : List (List Int)} {n : Nat} {x y : List Nat} {w : Int} (h : Cl a n (x ++ y) w) : Cl a n (y ++ x) w := by
  cases x with
  | nil => simpa using h
  | cons h' x =>
    cases y with
    | nil => simpa using h
    | cons g y =>
      obtain ⟨h0, r, e, hc⟩ := h
      simp only [List.cons_append, List.cons.injEq] at e
      obtain ⟨rfl, rfl⟩ := e
      have hc : Chn a n ((h' :: x) ++ g :: (y ++ [h'])) w := by simpa using hc
      obtain ⟨w1, w2, rfl, c1, c2⟩ := hc.split
      refine ⟨g, y ++ h' :: x, rfl, ?_⟩
      have c1' : Chn a n (h' :: (x ++ [g])) w1 := by simpa using c1
      have := Chn.append c1' (x := g :: y) (by simpa using c2)
      rw [Int.add_comm]
      simpa using this
/-- a node met twice: two closed chains -/
theorem Cl.cut {a : List (List Int)} {n : Nat} {x y z : List Nat} {v : Nat} {w : Int} (h : Cl a n (x ++ v :: y ++ v :: z) w) : ∃ w1 w2, w = w1 + w2 ∧ Cl a n (v :: y) w1 ∧ Cl a n (v :: z ++ x) w2 := by
  have h' : Cl a n (x ++ (v :: y ++ v :: z)) w := by simpa using h
  obtain ⟨h0, r, e, hc⟩ := h'.rot
  simp only [List.cons_append, List.append_assoc, List.cons.injEq] at e
  obtain ⟨rfl, rfl⟩ := e
  have hc : Chn a n ((v :: y) ++ v :: (z ++ x ++ [v])) w := by simpa using hc
  obtain ⟨w1, w2, rfl, c1, c2⟩ := hc.split
  exact ⟨w1, w2, rfl, ⟨v, y, rfl, c1⟩, ⟨v, z ++ x, rfl, by simpa using c2⟩⟩
theorem dup_of : ∀ {l : List Nat}, ¬ l.Nodup → ∃ (x : List Nat) (v : Nat) (y z : List Nat), l = x ++ v :: y ++ v :: z
  | [], h => absurd List.nodup_nil h
  | u :: l, h => by
    by_cases hm : u ∈ l
    · obtain ⟨y, z, rfl⟩ := List.append_of_mem hm
      exact ⟨[], u, y, z, rfl⟩
    · have : ¬ l.Nodup := fun hd => h (List.nodup_cons.2 ⟨hm, hd⟩)
      obtain ⟨x, v, y, z, rfl⟩ := dup_of this
      exact ⟨u :: x, v, y, z, rfl⟩
/-- a written cycle: each node once, the smallest one first -/
structure WC (a : List (List Int)) (n : Nat) (l : List Nat) (w : Int) : Prop where
  cl : Cl a n l w
  nd : l.Nodup
  fst : ∀ h r, l = h :: r → ∀ x ∈ r, h < x
theorem min_mem : ∀ {l : List Nat}, l ≠ [] → ∃ m ∈ l, ∀ x ∈ l, m ≤ x
  | [], h => absurd rfl h
  | [u], _ => ⟨u, by simp, by simp⟩
  | u :: u' :: l, _ => by
    obtain ⟨m, hm, h⟩ := min_mem (l := u' :: l) (by simp)
    by_cases e : u ≤ m
    · exact ⟨u, by simp, fun x hx => by
        rcases List.mem_cons.1 hx with rfl | hx
        · exact Nat.le_refl _
        · exact Nat.le_trans e (h x hx)⟩
    · exact ⟨m, List.mem_cons_of_mem _ hm, fun x hx => by
        rcases List.mem_cons.1 hx with rfl | hx
        · omega
        · exact h x hx⟩
/-- from a closed chain to a written cycle, with a property that sums hand on to one of their parts -/
theorem Cl.written {a : List (List Int)} {n : Nat} {P : Nat → Int → Prop} (hP : ∀ k1 k2 w1 w2, P (k1 + k2) (w1 + w2) → P k1 w1 ∨ P k2 w2) : ∀ (k : Nat) {l : List Nat} {w : Int}, l.length = k → Cl a n l w → P l.length w → ∃ l' w', WC a n l' w' ∧ P l'.length w' ∧ ∀ x ∈ l', x ∈ l := by
  intro k
  induction k using Nat.strongRecOn with
  | _ k ih =>
    intro l w hk hc hp
    by_cases hd : l.Nodup
    · obtain ⟨m, hm, hmin⟩ := min_mem hc.ne
      obtain ⟨x, z, rfl⟩ := List.append_of_mem hm
      have hr := hc.rot
      refine ⟨m :: z ++ x, w, ⟨hr, ?_, fun h r e y hy => ?_⟩, by simpa [Nat.add_comm, Nat.add_left_comm, Nat.add_assoc] using hp, fun y hy => by
        simp only [List.mem_append, List.mem_cons] at hy ⊢
        rcases hy with (hy | hy) | hy
        · exact .inr (.inl hy)
        · exact .inr (.inr hy)
        · exact .inl hy⟩
      · rw [List.nodup_append] at hd ⊢
        exact ⟨hd.2.1, hd.1, fun b hb c hc e => hd.2.2 c hc b hb e.symm⟩
      · simp only [List.cons_append, List.cons.injEq] at e
        obtain ⟨rfl, rfl⟩ := e
        have h1 := hmin y (by
          simp only [List.mem_append, List.mem_cons] at hy ⊢
          rcases hy with hy | hy
          · exact .inr (.inr hy)
          · exact .inl hy)
        have h2 : y ≠ m := by
          rintro rfl
          rw [List.nodup_append] at hd
          rcases List.mem_append.1 hy with hy | hy
          · exact (List.nodup_cons.1 hd.2.1).1 hy
          · exact hd.2.2 y hy y List.mem_cons_self rfl
        omega
    · obtain ⟨x, v, y, z, rfl⟩ := dup_of hd
      obtain ⟨w1, w2, rfl, c1, c2⟩ := hc.cut
      have e : (x ++ v :: y ++ v :: z).length = (v :: y).length + (v :: z ++ x).length := by simp; omega
      rw [e] at hp hk
      rcases hP _ _ _ _ hp with hp | hp
      · obtain ⟨l', w', a1, a2, a3⟩ := ih _ (by rw [← hk]; simp) rfl c1 hp
        exact ⟨l', w', a1, a2, fun u hu => by
          have := a3 u hu
          simp only [List.mem_append, List.mem_cons] at this ⊢
          rcases this with h | h
          · exact .inl (.inr (.inl h))
          · exact .inl (.inr (.inr h))⟩
      · obtain ⟨l', w', a1, a2, a3⟩ := ih _ (by rw [← hk]; simp) rfl c2 hp
        exact ⟨l', w', a1, a2, fun u hu => by
          have := a3 u hu
          simp only [List.mem_append, List.mem_cons] at this ⊢
          rcases this with (h | h) | h
          · exact .inl (.inr (.inl h))
          · exact .inr (.inr h)
          · exact .inl (.inl h)⟩
namespace M
end M

/-- entries that are Bottom or not large -/
def Ent (a : List (List Int)) (n : Nat) (B : Int) : Prop := ∀ i j, i < n → j < n → entA a i j = -1000000000000000 ∨ (-B ≤ entA a i j ∧ entA a i j ≤ B)
theorem Chn.bd {a : List (List Int)} {n : Nat} {B : Int} (hB : Ent a n B) (h0 : 0 ≤ B) {l : List Nat} {w : Int} (h : Chn a n l w) : -(B * ((l.length - 1 : Nat) : Int)) ≤ w ∧ w ≤ B * ((l.length - 1 : Nat) : Int) := by
  induction h with
  | one v hv => simp
  | cons u v r w hu ha h ih =>
    have hv := h.lt v List.mem_cons_self
    have := (hB v u hv hu).resolve_left ha
    have e : (((u :: v :: r).length - 1 : Nat) : Int) = (((v :: r).length - 1 : Nat) : Int) + 1 := by simp
    rw [e, Int.mul_add, Int.mul_one]
    omega
theorem Chn.last_lt {a : List (List Int)} {n : Nat} {x : List Nat} {t : Nat} {w : Int} (h : Chn a n (x ++ [t]) w) : t < n := h.lt t (by simp)
theorem Chn.snoc {a : List (List Int)} {n : Nat} {x : List Nat} {t v : Nat} {w : Int} (h : Chn a n (x ++ [t]) w) (hv : v < n) (ha : entA a v t ≠ -1000000000000000) : Chn a n (x ++ [t] ++ [v]) (w + entA a v t) := by
  have h2 : Chn a n [t, v] (entA a v t) := by have := Chn.cons t v [] 0 h.last_lt ha (.one v hv); rwa [Int.add_zero] at this
  have := Chn.append h2 (x := x) h
  simpa using this
theorem Chn.snoc_inv {a : List (List Int)} {n : Nat} {x : List Nat} {t v : Nat} {w : Int} (h : Chn a n (x ++ [t] ++ [v]) w) : ∃ w', w = w' + entA a v t ∧ Chn a n (x ++ [t]) w' ∧ entA a v t ≠ -1000000000000000 := by
  have h : Chn a n (x ++ t :: [v]) w := by simpa using h
  obtain ⟨w1, w2, rfl, h1, h2⟩ := h.split
  cases h2 with
  | cons _ _ _ w3 _ ha h3 => cases h3; exact ⟨w1, by omega, h1, ha⟩
/-- the node ahead of a node of a closed chain -/
theorem Cl.pred {a : List (List Int)} {n : Nat} {l : List Nat} {w : Int} (h : Cl a n l w) {v : Nat} (hv : v ∈ l) : ∃ u ∈ l, entA a v u ≠ -1000000000000000 := by
  obtain ⟨x, z, rfl⟩ := List.append_of_mem hv
  obtain ⟨h0, r, e, hc⟩ := h.rot
  simp only [List.cons_append, List.cons.injEq] at e
  obtain ⟨rfl, rfl⟩ := e
  rcases List.eq_nil_or_concat (z ++ x) with hz | ⟨y, t, hz⟩
  · simp only [List.cons_append, hz] at hc
    obtain ⟨_, _, _, ha⟩ := Chn.snoc_inv (x := []) hc
    exact ⟨v, hv, ha⟩
  · have hz : z ++ x = y ++ [t] := by simpa using hz
    have e2 : v :: z ++ x ++ [v] = (v :: y) ++ [t] ++ [v] := by
      rw [List.cons_append, hz]; rfl
    rw [e2] at hc
    obtain ⟨_, _, _, ha⟩ := Chn.snoc_inv hc
    refine ⟨t, ?_, ha⟩
    have : t ∈ z ++ x := by rw [hz]; simp
    simp only [List.mem_append, List.mem_cons] at this ⊢
    rcases this with h | h
    · exact .inr (.inr h)
    · exact .inl h
/-- a walk from j of k arcs -/
inductive Wlk (a : List (List Int)) (n j : Nat) : Nat → Nat → Int → Prop
  | nil : j < n → Wlk a n j 0 j 0
  | step (k i i' : Nat) (w : Int) : Wlk a n j k i w → i' < n → entA a i' i ≠ -1000000000000000 → Wlk a n j (k + 1) i' (w + entA a i' i)
theorem Wlk.lt {a : List (List Int)} {n j k i : Nat} {w : Int} (h : Wlk a n j k i w) : j < n ∧ i < n := by
  induction h with
  | nil hj => exact ⟨hj, hj⟩
  | step k i i' w _ hi _ ih => exact ⟨ih.1, hi⟩
theorem Wlk.trans {a : List (List Int)} {n j k i k' i' : Nat} {w w' : Int} (h : Wlk a n j k i w) (g : Wlk a n i k' i' w') : Wlk a n j (k + k') i' (w + w') := by
  induction g with
  | nil _ => simpa using h
  | step k' i1 i2 w' _ hi ha ih => rw [← Int.add_assoc]; exact .step _ _ _ _ ih hi ha
theorem Wlk.chn {a : List (List Int)} {n j k i : Nat} {w : Int} (h : Wlk a n j k i w) : ∃ x, Chn a n (x ++ [i]) w ∧ (x ++ [i]).head? = some j ∧ x.length = k := by
  induction h with
  | nil hj => exact ⟨[], .one j hj, rfl, rfl⟩
  | step k i i' w _ hi ha ih =>
    obtain ⟨x, h1, h2, h3⟩ := ih
    exact ⟨x ++ [i], h1.snoc hi ha, by rw [List.head?_append, h2]; rfl, by simp [h3]⟩
theorem Wlk.of_chn {a : List (List Int)} {n : Nat} : ∀ (k : Nat) {j i : Nat} {w : Int} {x : List Nat}, Chn a n (x ++ [i]) w → (x ++ [i]).head? = some j → x.length = k → Wlk a n j k i w
  | 0, j, i, w, x, h, hh, hl => by
    have := List.eq_nil_of_length_eq_zero hl
    subst this
    have e : i = j := by simpa using hh
    subst e
    cases h with
    | one _ hv => exact .nil hv
  | k + 1, j, i, w, x, h, hh, hl => by
    rcases List.eq_nil_or_concat x with rfl | ⟨y, t, e⟩
    · simp at hl
    · have e : x = y ++ [t] := by simpa using e
      subst e
      obtain ⟨w', rfl, h1, ha⟩ := h.snoc_inv
      rw [List.head?_append] at hh
      have hh2 : (y ++ [t]).head? = some j := by
        cases hy : (y ++ [t]).head? with
        | none => simp at hy
        | some v => rw [hy] at hh; simpa using hh
      exact .step k t i w' (Wlk.of_chn k h1 hh2 (by simpa using hl)) (h.lt i (by simp)) ha
theorem Cl.wlk {a : List (List Int)} {n : Nat} {l : List Nat} {w : Int} (h : Cl a n l w) : ∃ j r, l = j :: r ∧ Wlk a n j l.length j w := by
  obtain ⟨j, r, rfl, hc⟩ := h
  exact ⟨j, r, rfl, Wlk.of_chn _ hc rfl rfl⟩
theorem Wlk.cl {a : List (List Int)} {n j k : Nat} {w : Int} (h : Wlk a n j (k + 1) j w) : ∃ r, Cl a n (j :: r) w ∧ r.length = k := by
  obtain ⟨x, h1, h2, h3⟩ := h.chn
  cases x with
  | nil => simp at h3
  | cons v r =>
    have e : v = j := by simpa using h2
    subst e
    exact ⟨r, ⟨v, r, rfl, h1⟩, by simpa using h3⟩
def NoPos (a : List (List Int)) (n : Nat) : Prop := ∀ l w, Cl a n l w → w ≤ 0
/-- a walk of fewer than n arcs is as good as any -/
theorem Wlk.short {a : List (List Int)} {n : Nat} (hp : NoPos a n) : ∀ (k : Nat) {j i : Nat} {w : Int}, Wlk a n j k i w → ∃ k' w', Wlk a n j k' i w' ∧ k' < n ∧ k' ≤ k ∧ w ≤ w' := by
  intro k
  induction k using Nat.strongRecOn with
  | _ k ih =>
    intro j i w h
    by_cases hk : k < n
    · exact ⟨k, w, h, hk, Nat.le_refl _, Int.le_refl _⟩
    · obtain ⟨x, h1, h2, h3⟩ := h.chn
      have hnn : ¬ (x ++ [i]).Nodup := fun hd => by
        have := nodup_lt n _ hd h1.lt
        simp at this; omega
      obtain ⟨p, v, y, z, e⟩ := dup_of hnn
      have e' : x ++ [i] = p ++ v :: (y ++ v :: z) := by rw [e]; simp
      rw [e'] at h1
      obtain ⟨w1, w2, rfl, c1, c2⟩ := h1.split
      obtain ⟨w3, w4, rfl, c3, c4⟩ := Chn.split (x := v :: y) c2
      have hcyc := hp (v :: y) w3 ⟨v, y, rfl, c3⟩
      have hc := Chn.append c4 c1
      -- the last node is that of z
      have hlast : ∃ x', p ++ v :: z = x' ++ [i] ∧ x'.length < k := by
        have hl : (p ++ v :: (y ++ v :: z)).getLast? = some i := by rw [← e']; simp
        rcases List.eq_nil_or_concat (v :: z) with hz | ⟨z', t, hz⟩
        · simp at hz
        · have hz : v :: z = z' ++ [t] := by simpa using hz
          have ht : t = i := by
            have e3 : p ++ v :: (y ++ v :: z) = (p ++ v :: y ++ z') ++ [t] := by rw [hz]; simp
            rw [e3, List.getLast?_concat] at hl
            exact Option.some.inj hl
          subst ht
          refine ⟨p ++ z', by rw [hz]; simp, ?_⟩
          have e4 := congrArg List.length e'
          have e5 := congrArg List.length hz
          simp at e4 e5 ⊢
          omega
      obtain ⟨x', hx', hxl⟩ := hlast
      rw [hx'] at hc
      have hhd : (x' ++ [i]).head? = some j := by
        rw [← hx']
        rw [e'] at h2
        cases p with
        | nil => simpa using h2
        | cons q p => simpa using h2
      obtain ⟨k', w', g1, g2, g3, g4⟩ := ih _ hxl (Wlk.of_chn _ hc hhd rfl)
      exact ⟨k', w', g1, g2, by omega, by omega⟩
theorem Wlk.bd {a : List (List Int)} {n : Nat} {B : Int} (hB : Ent a n B) {j k i : Nat} {w : Int} (h : Wlk a n j k i w) : -(B * (k : Int)) ≤ w ∧ w ≤ B * (k : Int) := by
  induction h with
  | nil _ => simp
  | step k i i' w hw hi ha ih =>
    have := (hB i' i hi hw.lt.2).resolve_left ha
    rw [Int.natCast_add, Int.mul_add]
    simp only [Int.natCast_one, Int.mul_one]
    omega
/-- what the star of a matrix without positive cycles is -/
structure StarM (a : List (List Int)) (n : Nat) (S : List (List Int)) : Prop where
  shp : Shp S n
  len : S.length = n
  snd : ∀ i j, i < n → j < n → entA S i j = -1000000000000000 ∨ ∃ k, Wlk a n j k i (entA S i j)
  cpl : ∀ i j k w, Wlk a n j k i w → entA S i j ≠ -1000000000000000 ∧ w ≤ entA S i j
theorem StarM.bd {a S : List (List Int)} {n : Nat} {B : Int} (hp : NoPos a n) (hB : Ent a n B) (h0 : 0 ≤ B) (hn : n ≤ 10) (h : StarM a n S) {i j : Nat} (hi : i < n) (hj : j < n) : Bd (B * 10) (entA S i j) := by
  rcases h.snd i j hi hj with e | ⟨k, hk⟩
  · exact .inl e
  · right
    obtain ⟨k', w', g1, g2, _, g4⟩ := hk.short hp
    have b := g1.bd hB
    have c := (h.cpl i j k' w' g1).2
    have hkk : (k' : Int) ≤ 10 := by omega
    have := Int.mul_le_mul_of_nonneg_left hkk h0
    omega
theorem StarM.unique {a S T : List (List Int)} {n : Nat} (h : StarM a n S) (g : StarM a n T) : S = T := by
  rw [mat_eq h.shp, mat_eq g.shp, h.len, g.len]
  refine matF_congr fun i j hi hj => ?_
  by_cases e : entA S i j = -1000000000000000
  · rcases g.snd i j hi hj with e2 | ⟨k, hk⟩
    · rw [e, e2]
    · exact absurd e (h.cpl i j k _ hk).1
  · obtain ⟨k, hk⟩ := (h.snd i j hi hj).resolve_left e
    have c1 := g.cpl i j k _ hk
    obtain ⟨k2, hk2⟩ := (g.snd i j hi hj).resolve_left c1.1
    have c2 := h.cpl i j k2 _ hk2
    omega
structure StK (a : List (List Int)) (n k : Nat) (S : List (List Int)) : Prop where
  shp : Shp S n
  len : S.length = n
  snd : ∀ i j, i < n → j < n → entA S i j = -1000000000000000 ∨ ∃ k', k' ≤ k ∧ Wlk a n j k' i (entA S i j)
  cpl : ∀ i j k' w, k' ≤ k → Wlk a n j k' i w → entA S i j ≠ -1000000000000000 ∧ w ≤ entA S i j
theorem StK.bd {a S : List (List Int)} {n k : Nat} {B : Int} (hB : Ent a n B) (h0 : 0 ≤ B) (h : StK a n k S) {m : Int} (hm : (k : Int) ≤ m) {i j : Nat} (hi : i < n) (hj : j < n) : Bd (B * m) (entA S i j) := by
  rcases h.snd i j hi hj with e | ⟨k', h1, hk⟩
  · exact .inl e
  · right
    have b := hk.bd hB
    have := Int.mul_le_mul_of_nonneg_left (show (k' : Int) ≤ m by omega) h0
    omega
theorem StK.star {a S : List (List Int)} {n : Nat} (hp : NoPos a n) (h : StK a n n S) : StarM a n S :=
  ⟨h.shp, h.len, fun i j hi hj => (h.snd i j hi hj).imp id fun ⟨k, _, hk⟩ => ⟨k, hk⟩, fun i j k w hw => by
    obtain ⟨k', w', g1, g2, _, g4⟩ := hw.short hp
    have := h.cpl i j k' w' (by omega) g1
    exact ⟨this.1, by omega⟩⟩
theorem NoPos.closed {a : List (List Int)} {n j m : Nat} {w : Int} (hp : NoPos a n) (h : Wlk a n j m j w) : w ≤ 0 := by
  cases m with
  | zero => cases h; exact Int.le_refl _
  | succ m =>
    obtain ⟨r, hc, _⟩ := h.cl
    exact hp _ _ hc
theorem gcd_loop2 : ∀ (m : Nat) (a b : Nat), b < m → ConvL gcdF ((a : Int), (b : Int)) ((Nat.gcd a b : Nat), 0)
  | 0, _, _, h => by omega
  | m + 1, a, b, h => by
    by_cases h0 : 0 < b
    · have hl : a % b < b := Nat.mod_lt _ h0
      have ih := gcd_loop2 m b (a % b) (by omega)
      have e : Nat.gcd b (a % b) = Nat.gcd a b := by
        rw [Nat.gcd_comm b, ← Nat.gcd_rec, Nat.gcd_comm]
      rw [e] at ih
      refine ConvL.step ?_ ih
      have e2 : ((a : Int)).tmod (b : Int) = ((a % b : Nat) : Int) := by rw [Int.tmod_eq_emod_of_nonneg (by omega)]; omega
      exact M.Conv_ite (fun _ => M.Conv_bind (M.Conv_guard (by simp; omega)) ((M.Conv_ret _).of (by rw [e2]))) (fun q => by have := of_decide_eq_false q; simp only at this; omega)
    · obtain rfl : b = 0 := by omega
      rw [Nat.gcd_zero_right]
      exact ConvL.stop (M.Conv_ite (fun q => by have := of_decide_eq_true q; simp only at this; omega) (fun _ => M.Conv_ret _))
theorem divisor_gcd {a b : Int} (ha : -9000000000000000000 ≤ a ∧ a ≤ 9000000000000000000) (hb : -9000000000000000000 ≤ b ∧ b ≤ 9000000000000000000) : M.Conv (spec_l01Divisor a b) ((Nat.gcd a.natAbs b.natAbs : Nat) : Int) := by
  have e1 : mx a (w64 (0 - a)) = (a.natAbs : Int) := by rw [w64_eq _ (by omega), mx_eq]; omega
  have e2 : mx b (w64 (0 - b)) = (b.natAbs : Int) := by rw [w64_eq _ (by omega), mx_eq]; omega
  unfold spec_l01Divisor
  rw [e1, e2]
  exact M.Conv_bind (gcd_loop2 _ _ _ (Nat.lt_succ_self _)).conv (M.Conv_ret _)
theorem divisorI_gcd {a b : Nat} : M.Conv (impl_divisorOf (a : Int) (b : Int)) ((Nat.gcd a b : Nat) : Int) := by
  unfold impl_divisorOf
  exact M.Conv_bind (gcd_loop2 _ _ _ (Nat.lt_succ_self _)).conv (M.Conv_ret _)
theorem absI_ok {a : Int} (ha : -9000000000000000000 ≤ a ∧ a ≤ 9000000000000000000) : M.Conv (impl_absOf a) (a.natAbs : Int) := M.Conv_ite (fun q => by have := of_decide_eq_true q; exact (M.Conv_ret _).of (by rw [w64_eq _ (by omega)]; omega)) (fun q => by have := of_decide_eq_false q; exact (M.Conv_ret _).of (by omega))
/-- r is x / d in lowest terms -/
structure RatP (x d : Int) (r : TRatio) : Prop where
  pos : 0 < r.Den
  mul : ∃ g : Int, 0 < g ∧ x = g * r.Num ∧ d = g * r.Den
  cop : Nat.gcd r.Num.natAbs r.Den.natAbs = 1
theorem ratio_ok {x d : Int} (hx : -9000000000000000000 ≤ x ∧ x ≤ 9000000000000000000) (hd : 0 < d ∧ d ≤ 9000000000000000000) : ∃ r, M.Conv (spec_l01Ratio x d) r ∧ M.Conv (impl_ratioOf x d) r ∧ RatP x d r := by
  have hg : 0 < Nat.gcd x.natAbs d.natAbs := Nat.gcd_pos_of_pos_right _ (by omega)
  have k1 := divisor_gcd hx (b := d) ⟨by omega, by omega⟩
  have k2 := divisorI_gcd (a := x.natAbs) (b := d.natAbs)
  have ed : ((d.natAbs : Nat) : Int) = d := Int.natAbs_of_nonneg (by omega)
  rw [ed] at k2
  have dx : Nat.gcd x.natAbs d.natAbs ∣ x.natAbs := Nat.gcd_dvd_left _ _
  have dd : Nat.gcd x.natAbs d.natAbs ∣ d.natAbs := Nat.gcd_dvd_right _ _
  have cop : Nat.gcd (x.natAbs / Nat.gcd x.natAbs d.natAbs) (d.natAbs / Nat.gcd x.natAbs d.natAbs) = 1 := by
    rw [Nat.gcd_div dx dd, Nat.div_self hg]
  generalize Nat.gcd x.natAbs d.natAbs = G at k1 k2 hg dx dd cop
  have hG : ((G : Int) != 0) = true := by simp; omega
  obtain ⟨p, hp⟩ := dx
  obtain ⟨q, hq⟩ := dd
  have hx2 : ∃ s : Int, (s = 1 ∨ s = -1) ∧ x = (G : Int) * (s * p) := by
    by_cases h : 0 ≤ x
    · exact ⟨1, .inl rfl, by rw [Int.one_mul, ← Int.natCast_mul, ← hp]; omega⟩
    · exact ⟨-1, .inr rfl, by rw [Int.neg_one_mul, Int.mul_neg, ← Int.natCast_mul, ← hp]; omega⟩
  obtain ⟨s, hs, hx2⟩ := hx2
  have hd2 : d = (G : Int) * q := by rw [← Int.natCast_mul, ← hq]; omega
  have e1 : x.tdiv (G : Int) = s * p := by rw [hx2]; exact Int.mul_tdiv_cancel_left _ (by omega)
  have e2 : d.tdiv (G : Int) = q := by rw [hd2]; exact Int.mul_tdiv_cancel_left _ (by omega)
  have hq1 : 0 < q := by
    cases q with
    | zero => rw [Nat.mul_zero] at hq; omega
    | succ q => omega
  have hpb : p ≤ x.natAbs := by rw [hp]; exact Nat.le_mul_of_pos_left _ hg
  have hqb : q ≤ d.natAbs := by rw [hq]; exact Nat.le_mul_of_pos_left _ hg
  have w1 : w64 (s * p) = s * p := w64_eq _ (by rcases hs with rfl | rfl <;> omega)
  have w2 : w64 (q : Int) = q := w64_eq _ (by omega)
  have h0 : M.Conv (M.ite (decide (d < 0)) (M.ret ((w64 (0 - x)), (w64 (0 - d)))) (M.ret (x, d))) (x, d) := M.Conv_ite (fun q => by have := of_decide_eq_true q; omega) (fun _ => M.Conv_ret _)
  refine ⟨⟨s * p, q⟩, ?_, ?_, ⟨by simp only; omega, ⟨G, by omega, hx2, hd2⟩, ?_⟩⟩
  · unfold spec_l01Ratio
    refine M.Conv_bind h0 (M.Conv_bind k1 (M.Conv_bind (M.Conv_guard hG) (M.Conv_bind (M.Conv_guard hG) ((M.Conv_ret _).of ?_))))
    simp only [e1, e2, w1, w2]
  · unfold impl_ratioOf
    refine M.Conv_bind h0 (M.Conv_bind (absI_ok hx) (M.Conv_bind k2 (M.Conv_bind (M.Conv_guard hG) (M.Conv_bind (M.Conv_guard hG) ((M.Conv_ret _).of ?_)))))
    simp only [e1, e2, w1, w2]
  · have a1 : (s * (p : Int)).natAbs = p := by rcases hs with rfl | rfl <;> omega
    have a2 : ((q : Nat) : Int).natAbs = q := by omega
    have e3 : x.natAbs / G = p := by rw [hp]; exact Nat.mul_div_cancel_left _ hg
    have e4 : d.natAbs / G = q := by rw [hq]; exact Nat.mul_div_cancel_left _ hg
    rw [e3, e4] at cop
    simp only [a1, a2]
    exact cop
theorem exists_max {α : Type} {P : α → Prop} (f : α → Int) (B : Int) (hb : ∀ x, P x → f x ≤ B) (h : ∃ x, P x) : ∃ x, P x ∧ ∀ y, P y → f y ≤ f x := by
  suffices H : ∀ (m : Nat) (x : α), P x → (B - f x).toNat ≤ m → ∃ x, P x ∧ ∀ y, P y → f y ≤ f x by
    obtain ⟨x, hx⟩ := h
    exact H _ x hx (Nat.le_refl _)
  intro m
  induction m with
  | zero =>
    intro x hx hm
    have := hb x hx
    exact ⟨x, hx, fun y hy => by have := hb y hy; omega⟩
  | succ m ih =>
    intro x hx hm
    by_cases hm2 : ∃ y, P y ∧ f x < f y
    · obtain ⟨y, hy, hlt⟩ := hm2
      exact ih y hy (by have := hb y hy; omega)
    · refine ⟨x, hx, fun y hy => Int.not_lt.1 fun h => hm2 ⟨y, hy, h⟩⟩
def shF (a : List (List Int)) (L W : Int) (i j : Nat) : Int := bif entA a i j == (-1000000000000000) then -1000000000000000 else L * entA a i j - W
structure Sh (a : List (List Int)) (n : Nat) (L W : Int) : Prop where
  ent : Ent a n 1000000
  hL : 1 ≤ L ∧ L ≤ 10
  hW : -10000000 ≤ W ∧ W ≤ 10000000
theorem Sh.val {a : List (List Int)} {n : Nat} {L W : Int} (h : Sh a n L W) {i j : Nat} (hi : i < n) (hj : j < n) : (entA a i j = -1000000000000000 ∧ entA (matF n n (shF a L W)) i j = -1000000000000000) ∨ (entA a i j ≠ -1000000000000000 ∧ entA (matF n n (shF a L W)) i j = L * entA a i j - W ∧ -20000000 ≤ L * entA a i j - W ∧ L * entA a i j - W ≤ 20000000) := by
  rw [entA_matF hi hj]
  unfold shF
  rcases h.ent i j hi hj with e | e
  · left; rw [e]; exact ⟨rfl, rfl⟩
  · right
    have hL := h.hL
    have hW := h.hW
    have c1 := Int.mul_le_mul_of_nonneg_left e.2 (show 0 ≤ L by omega)
    have c2 := Int.mul_le_mul_of_nonneg_left e.1 (show 0 ≤ L by omega)
    have ne : entA a i j ≠ -1000000000000000 := by omega
    rw [show (entA a i j == (-1000000000000000)) = false by simpa using ne]
    exact ⟨ne, rfl, by omega, by omega⟩
theorem Sh.bd {a : List (List Int)} {n : Nat} {L W : Int} (h : Sh a n L W) : Ent (matF n n (shF a L W)) n 20000000 := by
  intro i j hi hj
  rcases h.val hi hj with e | e
  · exact .inl e.2
  · right; rw [e.2.1]; exact e.2.2
theorem Wlk.sh {a : List (List Int)} {n : Nat} {L W : Int} (hs : Sh a n L W) {j k i : Nat} {w : Int} (h : Wlk a n j k i w) : Wlk (matF n n (shF a L W)) n j k i (L * w - W * (k : Int)) := by
  induction h with
  | nil hj => simpa using Wlk.nil hj
  | step k i i' w hw hi ha ih =>
    rcases hs.val hi hw.lt.2 with e | e
    · exact absurd e.1 ha
    · have := Wlk.step k i i' _ ih hi (by rw [e.2.1]; omega)
      rw [e.2.1] at this
      rw [show L * (w + entA a i' i) - W * ((k + 1 : Nat) : Int) = L * w - W * (k : Int) + (L * entA a i' i - W) by rw [Int.mul_add, Int.natCast_add, Int.mul_add]; simp only [Int.natCast_one, Int.mul_one]; omega]
      exact this
theorem Wlk.unsh {a : List (List Int)} {n : Nat} {L W : Int} (hs : Sh a n L W) {j k i : Nat} {w : Int} (h : Wlk (matF n n (shF a L W)) n j k i w) : ∃ w', w = L * w' - W * (k : Int) ∧ Wlk a n j k i w' := by
  induction h with
  | nil hj => exact ⟨0, by simp, .nil hj⟩
  | step k i i' w hw hi ha ih =>
    obtain ⟨w', rfl, h'⟩ := ih
    rcases hs.val hi hw.lt.2 with e | e
    · exact absurd e.2 ha
    · refine ⟨w' + entA a i' i, ?_, .step k i i' w' h' hi e.1⟩
      rw [e.2.1, Int.mul_add, Int.natCast_add, Int.mul_add]; simp only [Int.natCast_one, Int.mul_one]; omega
theorem sh_nopos {a : List (List Int)} {n : Nat} {L W : Int} (hs : Sh a n L W) (h : ∀ l w, Cl a n l w → w * L ≤ W * (l.length : Int)) : NoPos (matF n n (shF a L W)) n := by
  intro l w hc
  obtain ⟨j, r, rfl, hw⟩ := hc.wlk
  obtain ⟨w', rfl, hw'⟩ := hw.unsh hs
  obtain ⟨r', h1, h2⟩ := Wlk.cl (k := r.length) hw'
  have := h _ _ h1
  rw [Int.mul_comm] at this
  simp only [List.length_cons, h2] at this ⊢
  omega
theorem Cl.bd {a : List (List Int)} {n : Nat} {B : Int} (hB : Ent a n B) {l : List Nat} {w : Int} (h : Cl a n l w) : -(B * (l.length : Int)) ≤ w ∧ w ≤ B * (l.length : Int) := by
  obtain ⟨j, r, rfl, hw⟩ := h.wlk
  exact hw.bd hB
/-- a cycle of the greatest mean -/
structure MaxC (a : List (List Int)) (n : Nat) (l : List Nat) (W : Int) : Prop where
  wc : WC a n l W
  max : ∀ l' w', Cl a n l' w' → w' * (l.length : Int) ≤ W * (l'.length : Int)
theorem WC.len {a : List (List Int)} {n : Nat} {l : List Nat} {w : Int} (h : WC a n l w) : 1 ≤ l.length ∧ l.length ≤ n := by
  have := nodup_lt n l h.nd h.cl.lt
  obtain ⟨j, r, e, _⟩ := h.cl
  rw [e] at this ⊢
  exact ⟨by simp, this⟩
theorem MaxC.sh {a : List (List Int)} {n : Nat} {l : List Nat} {W : Int} (hn : n ≤ 10) (hA : Ent a n 1000000) (h : MaxC a n l W) : Sh a n (l.length : Int) W ∧ NoPos (matF n n (shF a (l.length : Int) W)) n := by
  have hlen := h.wc.len
  have b := h.wc.cl.bd hA
  have hs : Sh a n (l.length : Int) W := ⟨hA, by omega, by omega⟩
  exact ⟨hs, sh_nopos hs fun l' w' hc => h.max l' w' hc⟩
theorem Wlk.split {a : List (List Int)} {n j : Nat} (k : Nat) : ∀ (m : Nat) {w : Int} {i : Nat}, Wlk a n j (k + m) i w → ∃ x w1 w2, Wlk a n j k x w1 ∧ Wlk a n x m i w2 ∧ w = w1 + w2
  | 0, w, i, h => ⟨i, w, 0, h, .nil h.lt.2, by omega⟩
  | m + 1, w, i, h => by
    cases h with
    | step _ i1 _ w1 hw hi ha =>
      obtain ⟨x, u, v, h1, h2, rfl⟩ := Wlk.split k m hw
      exact ⟨x, u, _, h1, .step m i1 _ v h2 hi ha, by omega⟩
structure FkP (a : List (List Int)) (n k : Nat) (F : List Int) : Prop where
  len : F.length = n
  snd : ∀ i, i < n → nd F i = -1000000000000000 ∨ ∃ j, Wlk a n j k i (nd F i)
  cpl : ∀ i j w, Wlk a n j k i w → nd F i ≠ -1000000000000000 ∧ w ≤ nd F i
theorem mat_ent {a : List (List Int)} (hm : Mat a a.length) : Ent a a.length 1000000 := fun i j hi hj => val_cases (ent_val hm hi hj).2.2
theorem FkP.bd {a : List (List Int)} {n k : Nat} (hB : Ent a n 1000000) {F : List Int} (h : FkP a n k F) (hk : k ≤ 10) {i : Nat} (hi : i < n) : nd F i = -1000000000000000 ∨ (-10000000 ≤ nd F i ∧ nd F i ≤ 10000000) := by
  rcases h.snd i hi with e | ⟨j, hw⟩
  · exact .inl e
  · have := hw.bd hB
    exact .inr (by omega)
/-- a walk from j: v, does it meet node 0; t loops at 0; m arcs; s, the weight of the other arcs -/
inductive DW (a : List (List Int)) (n j : Nat) : Bool → Nat → Nat → Nat → Int → Prop
  | nil : j < n → DW a n j (j == 0) 0 0 j 0
  | loop (v : Bool) (t m : Nat) (s : Int) : DW a n j v t m 0 s → entA a 0 0 ≠ -1000000000000000 → DW a n j true (t + 1) (m + 1) 0 s
  | step (v : Bool) (t m i i' : Nat) (s : Int) : DW a n j v t m i s → i' < n → entA a i' i ≠ -1000000000000000 → ¬ (i = 0 ∧ i' = 0) → DW a n j (v || i' == 0) t (m + 1) i' (s + entA a i' i)
theorem DW.lt {a : List (List Int)} {n j : Nat} {v : Bool} {t m i : Nat} {s : Int} (h : DW a n j v t m i s) : j < n ∧ i < n ∧ t ≤ m := by
  induction h with
  | nil hj => exact ⟨hj, hj, Nat.le_refl _⟩
  | loop v t m s _ _ ih => exact ⟨ih.1, ih.2.1, by omega⟩
  | step v t m i i' s _ hi _ _ ih => exact ⟨ih.1, hi, by omega⟩
theorem DW.at0 {a : List (List Int)} {n j : Nat} {v : Bool} {t m i : Nat} {s : Int} (h : DW a n j v t m i s) (hi : i = 0) : v = true := by
  cases h with
  | nil hj => subst hi; rfl
  | loop => rfl
  | step => subst hi; simp
theorem DW.wlk {a : List (List Int)} {n j : Nat} {v : Bool} {t m i : Nat} {s : Int} (h : DW a n j v t m i s) : Wlk a n j m i ((t : Int) * entA a 0 0 + s) := by
  induction h with
  | nil hj => simpa using Wlk.nil hj
  | loop v t m s h ha ih =>
    have := Wlk.step m 0 0 _ ih (by have := h.lt; omega) ha
    rw [show ((t + 1 : Nat) : Int) * entA a 0 0 + s = (t : Int) * entA a 0 0 + s + entA a 0 0 by rw [Int.natCast_add, Int.add_mul]; simp only [Int.natCast_one, Int.one_mul]; omega]
    exact this
  | step v t m i i' s h hi ha hne ih =>
    have := Wlk.step m i i' _ ih hi ha
    rw [← Int.add_assoc]; exact this
theorem Wlk.dw {a : List (List Int)} {n j m i : Nat} {w : Int} (h : Wlk a n j m i w) : ∃ v t s, DW a n j v t m i s ∧ w = (t : Int) * entA a 0 0 + s := by
  induction h with
  | nil hj => exact ⟨_, 0, 0, .nil hj, by simp⟩
  | step m i i' w hw hi ha ih =>
    obtain ⟨v, t, s, h, rfl⟩ := ih
    by_cases e : i = 0 ∧ i' = 0
    · obtain ⟨rfl, rfl⟩ := e
      refine ⟨true, t + 1, s, .loop v t m s h ha, ?_⟩
      rw [Int.natCast_add, Int.add_mul]; simp only [Int.natCast_one, Int.one_mul]; omega
    · exact ⟨_, t, _, .step v t m i i' s h hi ha e, by omega⟩
/-- one loop more -/
theorem DW.ins {a : List (List Int)} {n j : Nat} {v : Bool} {t m i : Nat} {s : Int} (ha : entA a 0 0 ≠ -1000000000000000) (h : DW a n j v t m i s) : v = true → DW a n j true (t + 1) (m + 1) i s := by
  induction h with
  | nil hj => intro hv; have hv : j = 0 := by simpa using hv
              subst hv; exact .loop _ 0 0 0 (.nil hj) ha
  | loop v t m s h ha' ih => intro _; exact .loop _ _ _ _ (ih (h.at0 rfl)) ha
  | step v t m i i' s h hi ha' hne ih =>
    intro hv
    by_cases hv2 : v = true
    · have := DW.step true (t + 1) (m + 1) i i' s (ih hv2) hi ha' hne
      simpa using this
    · have e : i' = 0 := by
        cases v with
        | true => exact absurd rfl hv2
        | false => simpa using hv
      subst e
      exact .loop _ _ _ _ (.step v t m i 0 s h hi ha' hne) ha
theorem DW.insN {a : List (List Int)} {n j : Nat} {t m i : Nat} {s : Int} (ha : entA a 0 0 ≠ -1000000000000000) (h : DW a n j true t m i s) : ∀ q, DW a n j true (t + q) (m + q) i s
  | 0 => h
  | q + 1 => (DW.insN ha h q).ins ha rfl
/-- one loop less -/
theorem DW.del {a : List (List Int)} {n j : Nat} {v : Bool} {t m i : Nat} {s : Int} (h : DW a n j v t m i s) : ∀ t', t = t' + 1 → ∃ m', m = m' + 1 ∧ DW a n j true t' m' i s ∧ entA a 0 0 ≠ -1000000000000000 := by
  induction h with
  | nil hj => intro t' e; omega
  | loop v t m s h ha ih =>
    intro t' e
    obtain rfl : t = t' := by omega
    have := h.at0 rfl
    subst this
    exact ⟨m, rfl, h, ha⟩
  | step v t m i i' s h hi ha hne ih =>
    intro t' e
    obtain ⟨m', rfl, h', ha'⟩ := ih t' e
    have := DW.step true t' m' i i' s h' hi ha hne
    exact ⟨m' + 1, rfl, by simpa using this, ha'⟩
theorem DW.delN {a : List (List Int)} {n j : Nat} : ∀ (q : Nat) {v : Bool} {t m i : Nat} {s : Int}, DW a n j v (t + q) m i s → 1 ≤ q → ∃ m', m = m' + q ∧ DW a n j true t m' i s ∧ entA a 0 0 ≠ -1000000000000000
  | 0, v, t, m, i, s, h, hq => by omega
  | q + 1, v, t, m, i, s, h, hq => by
    obtain ⟨m', rfl, h', ha⟩ := h.del (t + q) (by omega)
    by_cases hq2 : q = 0
    · subst hq2; exact ⟨m', rfl, h', ha⟩
    · obtain ⟨m2, rfl, h2, _⟩ := DW.delN q h' (by omega)
      exact ⟨m2, by omega, h2, ha⟩
/-- small entries but for the loop -/
def SmA (a : List (List Int)) (n : Nat) : Prop := ∀ i j, i < n → j < n → ¬ (j = 0 ∧ i = 0) → entA a i j = -1000000000000000 ∨ (-10 ≤ entA a i j ∧ entA a i j ≤ 15)
theorem DW.sm {a : List (List Int)} {n j : Nat} (hs : SmA a n) {v : Bool} {t m i : Nat} {s : Int} (h : DW a n j v t m i s) : -(10 * ((m : Int) - t)) ≤ s ∧ s ≤ 15 * ((m : Int) - t) := by
  induction h with
  | nil hj => simp
  | loop v t m s h ha ih => omega
  | step v t m i i' s h hi ha hne ih =>
    have := (hs i' i hi h.lt.2.1 hne).resolve_left ha
    omega
/-- the vector of the orbit's place m -/
structure OrP (a : List (List Int)) (n : Nat) (x : Nat → Int) (m : Nat) (F : Nat → Int) : Prop where
  snd : ∀ i, i < n → F i = -1000000000000000 ∨ ∃ j w, x j ≠ -1000000000000000 ∧ Wlk a n j m i w ∧ F i = x j + w
  cpl : ∀ i j w, x j ≠ -1000000000000000 → Wlk a n j m i w → F i ≠ -1000000000000000 ∧ x j + w ≤ F i
def SmX (x : Nat → Int) (n : Nat) : Prop := ∀ i, i < n → x i = -1000000000000000 ∨ (-15 ≤ x i ∧ x i ≤ 15)
/-- what is told of a repeat -/
structure RepP (a : List (List Int)) (n : Nat) (x : Nat → Int) (k c : Nat) (g : Int) (Fk F1 Fc : Nat → Int) : Prop where
  sa : SmA a n
  sx : SmX x n
  ok : OrP a n x k Fk
  o1 : OrP a n x (k + 1) F1
  oc : OrP a n x (k + c) Fc
  kc : k + c ≤ 100
  c2 : 2 ≤ c
  n10 : n ≤ 10
  sup : ∀ i, i < n → (Fk i = -1000000000000000 ↔ Fc i = -1000000000000000)
  sh : ∀ i, i < n → Fk i ≠ -1000000000000000 → Fc i = Fk i + g
  ne : ∃ i, i < n ∧ Fk i ≠ -1000000000000000
theorem mul_big {t t' : Nat} {α σ σ' : Int} (h : (t : Int) * α + σ = (t' : Int) * α + σ') (hα : 10000 < α ∨ α < -10000) (b : -4000 ≤ σ ∧ σ ≤ 4000) (b' : -4000 ≤ σ' ∧ σ' ≤ 4000) : t = t' := by
  have e : ((t : Int) - t') * α = σ' - σ := by rw [Int.sub_mul]; omega
  apply Classical.byContradiction
  intro hne
  rcases Nat.lt_or_gt_of_ne hne with hlt | hlt
  · obtain ⟨d, hd⟩ : ∃ d : Nat, (t' : Int) - t = d + 1 := ⟨t' - t - 1, by omega⟩
    have e2 : (t : Int) - t' = -(d + 1) := by omega
    rw [e2, Int.neg_mul, Int.add_mul, Int.one_mul] at e
    rcases hα with hα | hα
    · have := Int.mul_nonneg (show (0 : Int) ≤ d by omega) (show 0 ≤ α by omega); omega
    · have := Int.mul_nonneg (show (0 : Int) ≤ d by omega) (show 0 ≤ -α by omega); rw [Int.mul_neg] at this; omega
  · obtain ⟨d, hd⟩ : ∃ d : Nat, (t : Int) - t' = d + 1 := ⟨t - t' - 1, by omega⟩
    rw [hd, Int.add_mul, Int.one_mul] at e
    rcases hα with hα | hα
    · have := Int.mul_nonneg (show (0 : Int) ≤ d by omega) (show 0 ≤ α by omega); omega
    · have := Int.mul_nonneg (show (0 : Int) ≤ d by omega) (show 0 ≤ -α by omega); rw [Int.mul_neg] at this; omega

theorem DW.ge1 {a : List (List Int)} {n j : Nat} {v : Bool} {t m i : Nat} {s : Int} (h : DW a n j v t m i s) : 1 ≤ t → v = true := by
  induction h with
  | nil hj => intro h; omega
  | loop => intro _; rfl
  | step v t m i i' s _ _ _ _ ih => intro ht; rw [ih ht]; rfl
theorem RepP.up {a : List (List Int)} {n : Nat} {x : Nat → Int} {k c : Nat} {g : Int} {Fk F1 Fc : Nat → Int} (h : RepP a n x k c g Fk F1 Fc) : ∀ (R : Nat) {u i : Nat} {w : Int}, u < n → Fk u ≠ -1000000000000000 → Wlk a n u (R * c) i w → Fk i ≠ -1000000000000000 ∧ Fk u + w ≤ Fk i + R * g
  | 0, u, i, w, hu, hf, hw => by
    rw [Nat.zero_mul] at hw
    cases hw with
    | nil _ => exact ⟨hf, by simp⟩
  | R + 1, u, i, w, hu, hf, hw => by
    rw [Nat.add_mul, Nat.one_mul] at hw
    obtain ⟨y, w1, w2, h1, h2, rfl⟩ := Wlk.split (R * c) c hw
    obtain ⟨hy, hle⟩ := RepP.up h R hu hf h1
    obtain ⟨j, w0, hj, hw0, e⟩ := (h.ok.snd y h1.lt.2).resolve_left hy
    obtain ⟨c1, c2⟩ := h.oc.cpl i j _ hj (hw0.trans h2)
    have hi := h2.lt.2
    have hfi : Fk i ≠ -1000000000000000 := fun e => c1 ((h.sup i hi).1 e)
    have := h.sh i hi hfi
    refine ⟨hfi, ?_⟩
    rw [Int.natCast_add, Int.add_mul]; simp only [Int.natCast_one, Int.one_mul]
    omega
theorem RepP.pred {a : List (List Int)} {n : Nat} {x : Nat → Int} {k c : Nat} {g : Int} {Fk F1 Fc : Nat → Int} (h : RepP a n x k c g Fk F1 Fc) {i : Nat} (hi : i < n) (hf : Fk i ≠ -1000000000000000) : ∃ u, u < n ∧ Fk u ≠ -1000000000000000 ∧ Wlk a n u c i (Fk i + g - Fk u) := by
  have hfc : Fc i ≠ -1000000000000000 := fun e => hf ((h.sup i hi).2 e)
  have hs := h.sh i hi hf
  obtain ⟨j, w, hj, hw, e⟩ := (h.oc.snd i hi).resolve_left hfc
  obtain ⟨u, w1, w2, h1, h2, rfl⟩ := Wlk.split k c hw
  obtain ⟨c1, c2⟩ := h.ok.cpl u j w1 hj h1
  have := (h.up 1 h1.lt.2 c1 (by rw [Nat.one_mul]; exact h2)).2
  simp only [Int.natCast_one, Int.one_mul] at this
  refine ⟨u, h1.lt.2, c1, ?_⟩
  rw [show Fk i + g - Fk u = w2 by omega]
  exact h2
/-- a closed walk that grows just as the orbit does -/
theorem RepP.closed {a : List (List Int)} {n : Nat} {x : Nat → Int} {k c : Nat} {g : Int} {Fk F1 Fc : Nat → Int} (h : RepP a n x k c g Fk F1 Fc) : ∃ z q : Nat, 1 ≤ q ∧ z < n ∧ Fk z ≠ -1000000000000000 ∧ Wlk a n z (q * c) z (q * g) := by
  have : ∀ i, ∃ u, (i < n ∧ Fk i ≠ -1000000000000000) → (u < n ∧ Fk u ≠ -1000000000000000) ∧ Wlk a n u c i (Fk i + g - Fk u) := by
    intro i
    by_cases hi : i < n ∧ Fk i ≠ -1000000000000000
    · obtain ⟨u, h1, h2, h3⟩ := h.pred hi.1 hi.2
      exact ⟨u, fun _ => ⟨⟨h1, h2⟩, h3⟩⟩
    · exact ⟨0, fun h => absurd h hi⟩
  obtain ⟨p, hp⟩ := Classical.skolem.1 this
  obtain ⟨i0, hi0, hf0⟩ := h.ne
  let it : Nat → Nat := fun R => Nat.rec i0 (fun _ y => p y) R
  have its : ∀ R, it (R + 1) = p (it R) := fun R => rfl
  have hit : ∀ R, it R < n ∧ Fk (it R) ≠ -1000000000000000 := by
    intro R
    induction R with
    | zero => exact ⟨hi0, hf0⟩
    | succ R ih => rw [its]; exact (hp _ ih).1
  have walk : ∀ b d, Wlk a n (it (b + d)) (d * c) (it b) (Fk (it b) + d * g - Fk (it (b + d))) := by
    intro b d
    induction d with
    | zero =>
      have := Wlk.nil (a := a) (n := n) (hit b).1
      simpa using this
    | succ d ih =>
      have h1 := (hp _ (hit (b + d))).2
      rw [← its] at h1
      have := h1.trans ih
      rw [show c + d * c = (d + 1) * c by rw [Nat.add_mul, Nat.one_mul, Nat.add_comm], show Fk (it (b + d)) + g - Fk (it (b + d + 1)) + (Fk (it b) + (d : Int) * g - Fk (it (b + d))) = Fk (it b) + ((d + 1 : Nat) : Int) * g - Fk (it (b + d + 1)) by rw [Int.natCast_add, Int.add_mul]; simp only [Int.natCast_one, Int.one_mul]; omega] at this
      exact this
  have hdup : ∃ b d, 1 ≤ d ∧ it b = it (b + d) := by
    apply Classical.byContradiction
    intro hno
    have hnd : ((List.range (n + 1)).map it).Nodup := by
      refine List.pairwise_map.2 ((List.nodup_range (n := n + 1)).imp fun {i j} hne e => ?_)
      rcases Nat.lt_or_gt_of_ne hne with hlt | hlt
      · exact hno ⟨i, j - i, by omega, by rw [show i + (j - i) = j by omega]; exact e⟩
      · exact hno ⟨j, i - j, by omega, by rw [show j + (i - j) = i by omega]; exact e.symm⟩
    have := nodup_lt n _ hnd fun v hv => by
      obtain ⟨i, _, rfl⟩ := List.mem_map.1 hv
      exact (hit i).1
    simp at this
    omega
  obtain ⟨b, d, hd, e⟩ := hdup
  refine ⟨it b, d, hd, (hit b).1, (hit b).2, ?_⟩
  have := walk b d
  rw [← e, show Fk (it b) + (d : Int) * g - Fk (it b) = (d : Int) * g by omega] at this
  exact this
theorem Wlk.rep {a : List (List Int)} {n z e : Nat} {s : Int} (h : Wlk a n z e z s) : ∀ y : Nat, Wlk a n z (y * e) z (y * s)
  | 0 => by simpa using Wlk.nil h.lt.1
  | y + 1 => by
    have := (Wlk.rep h y).trans h
    rw [Nat.add_mul, Nat.one_mul, Int.natCast_add, Int.add_mul]
    simpa using this
theorem RepP.growth {a : List (List Int)} {n : Nat} {x : Nat → Int} {k c : Nat} {g : Int} {Fk F1 Fc : Nat → Int} (h : RepP a n x k c g Fk F1 Fc) (hg : g < -1000000 ∨ 1000000 < g) : g = (c : Int) * entA a 0 0 ∧ entA a 0 0 ≠ -1000000000000000 := by
  obtain ⟨z, q, hq, hz, hfz, hw⟩ := h.closed
  have hkc := h.kc
  have hc2 := h.c2
  obtain ⟨v, T, s, hd, e⟩ := hw.dw
  have hsm := hd.sm h.sa
  have hT := hd.lt.2.2
  have hqc : ((q * c : Nat) : Int) = (q : Int) * c := Int.natCast_mul q c
  have hq0 : (0 : Int) < q := by omega
  have cb : (c : Int) ≤ 100 := by omega
  -- some loops there are
  have hT1 : 1 ≤ T := by
    apply Classical.byContradiction
    intro hT0
    have : T = 0 := by omega
    subst this
    simp only [Int.natCast_zero, Int.zero_mul, Int.zero_add, Int.sub_zero] at e hsm
    rw [hqc] at hsm
    rw [← e] at hsm
    rcases hg with hg | hg
    · have h1 : (q : Int) * g ≤ q * (-1000001) := Int.mul_le_mul_of_nonneg_left (by omega) (by omega)
      have h2 : (q : Int) * c ≤ q * 100 := Int.mul_le_mul_of_nonneg_left cb (by omega)
      omega
    · have h1 : (q : Int) * 1000001 ≤ q * g := Int.mul_le_mul_of_nonneg_left (by omega) (by omega)
      have h2 : (q : Int) * c ≤ q * 100 := Int.mul_le_mul_of_nonneg_left cb (by omega)
      omega
  have hv := hd.ge1 hT1
  subst hv
  obtain ⟨e1, he1, hfree, ha⟩ := DW.delN (t := 0) T (by rw [Nat.zero_add]; exact hd) hT1
  -- a loop more in each round
  have up1 : (c : Int) * entA a 0 0 ≤ g := by
    have := (hd.insN ha c).wlk
    rw [show q * c + c = (q + 1) * c by rw [Nat.add_mul, Nat.one_mul]] at this
    have := (h.up (q + 1) hz hfz this).2
    rw [Int.natCast_add, Int.natCast_add, Int.add_mul, Int.add_mul] at this
    simp only [Int.natCast_one, Int.one_mul] at this
    omega
  -- no loops at all, c times
  have up2 : (c : Int) * s ≤ (e1 : Int) * g := by
    have hwf := hfree.wlk
    simp only [Int.natCast_zero, Int.zero_mul, Int.zero_add] at hwf
    have := hwf.rep c
    rw [Nat.mul_comm] at this
    have := (h.up e1 hz hfz this).2
    omega
  have hTe : (T : Int) + e1 = q * c := by rw [← hqc]; omega
  have hse : -(10 * (e1 : Int)) ≤ s ∧ s ≤ 15 * (e1 : Int) := by
    have e2 : ((q * c : Nat) : Int) - T = e1 := by omega
    rw [e2] at hsm
    exact hsm
  have he0 : e1 = 0 := by
    apply Classical.byContradiction
    intro hne
    have he : (0 : Int) < e1 := by omega
    rcases hg with hg | hg
    · have h1 : (e1 : Int) * g ≤ e1 * (-1000001) := Int.mul_le_mul_of_nonneg_left (by omega) (by omega)
      have h2 : (c : Int) * (-(10 * (e1 : Int))) ≤ c * s := Int.mul_le_mul_of_nonneg_left hse.1 (by omega)
      have h3 : (c : Int) * e1 ≤ 100 * e1 := Int.mul_le_mul_of_nonneg_right cb (by omega)
      rw [Int.mul_neg, show (c : Int) * (10 * (e1 : Int)) = 10 * ((c : Int) * e1) by grind] at h2
      omega
    · -- e1 * alpha <= s <= 15 * e1
      have h1 : (q : Int) * (c * entA a 0 0) ≤ q * g := Int.mul_le_mul_of_nonneg_left up1 (by omega)
      have h2 : (q : Int) * (c * entA a 0 0) = T * entA a 0 0 + e1 * entA a 0 0 := by rw [← Int.mul_assoc, ← hTe, Int.add_mul]
      have h3 : (e1 : Int) * entA a 0 0 ≤ e1 * 15 := by omega
      have h4 : entA a 0 0 ≤ 15 := Int.le_of_mul_le_mul_left h3 he
      have h5 : (T : Int) * entA a 0 0 ≤ T * 15 := Int.mul_le_mul_of_nonneg_left h4 (by omega)
      have h6 : (q : Int) * 1000001 ≤ q * g := Int.mul_le_mul_of_nonneg_left (by omega) (by omega)
      have h7 : (q : Int) * c ≤ q * 100 := Int.mul_le_mul_of_nonneg_left cb (by omega)
      omega
  subst he0
  have hs0 : s = 0 := by omega
  refine ⟨?_, ha⟩
  rw [hs0, Int.add_zero, show (T : Int) = q * c by omega, Int.mul_assoc] at e
  exact Int.eq_of_mul_eq_mul_left (by omega) e
theorem RepP.next {a : List (List Int)} {n : Nat} {x : Nat → Int} {k c : Nat} {g : Int} {Fk F1 Fc : Nat → Int} (h : RepP a n x k c g Fk F1 Fc) (hxn : ∀ i, n ≤ i → x i = -1000000000000000) (hg : g < -1000000 ∨ 1000000 < g) : ∀ i, i < n → (Fk i = -1000000000000000 ↔ F1 i = -1000000000000000) ∧ (Fk i ≠ -1000000000000000 → F1 i = Fk i + entA a 0 0) := by
  obtain ⟨eg, ha⟩ := h.growth hg
  have hkc := h.kc
  have hc2 := h.c2
  have hα : 10000 < entA a 0 0 ∨ entA a 0 0 < -10000 := by
    apply Classical.byContradiction
    intro hno
    have h1 : (c : Int) * entA a 0 0 ≤ c * 10000 := Int.mul_le_mul_of_nonneg_left (by omega) (by omega)
    have h2 : (c : Int) * (-10000) ≤ c * entA a 0 0 := Int.mul_le_mul_of_nonneg_left (by omega) (by omega)
    omega
  have xb : ∀ j, x j ≠ -1000000000000000 → -15 ≤ x j ∧ x j ≤ 15 := fun j hj => by
    by_cases hjn : j < n
    · exact (h.sx j hjn).resolve_left hj
    · exact absurd (hxn j (by omega)) hj
  -- a best walk of k arcs meets node 0
  have K : ∀ i, i < n → Fk i ≠ -1000000000000000 → ∃ j t s, x j ≠ -1000000000000000 ∧ DW a n j true t k i s ∧ Fk i = x j + (t * entA a 0 0 + s) := by
    intro i hi hf
    have hfc : Fc i ≠ -1000000000000000 := fun e => hf ((h.sup i hi).2 e)
    have hs := h.sh i hi hf
    obtain ⟨j, w, hj, hw, e⟩ := (h.oc.snd i hi).resolve_left hfc
    obtain ⟨v, T, s, hd, rfl⟩ := hw.dw
    obtain ⟨j', w', hj', hw', e'⟩ := (h.ok.snd i hi).resolve_left hf
    obtain ⟨v', t', s', hd', rfl⟩ := hw'.dw
    have b1 := hd.sm h.sa
    have b2 := hd'.sm h.sa
    have l1 := hd.lt.2.2
    have l2 := hd'.lt.2.2
    have x1 := xb j hj
    have x2 := xb j' hj'
    have hTt : T = t' + c := by
      refine mul_big (α := entA a 0 0) (σ := x j + s) (σ' := x j' + s') ?_ hα (by omega) (by omega)
      rw [Int.natCast_add, Int.add_mul]; omega
    subst hTt
    obtain ⟨m', hm', hd2, _⟩ := DW.delN c hd (by omega)
    obtain rfl : m' = k := by omega
    refine ⟨j, t', s, hj, hd2, ?_⟩
    rw [Int.natCast_add, Int.add_mul] at e
    omega
  intro i hi
  -- behind a walk of k + 1 arcs that meets node 0
  have via : ∀ j t s, x j ≠ -1000000000000000 → DW a n j true t (k + 1) i s → Fk i ≠ -1000000000000000 ∧ x j + (t * entA a 0 0 + s) ≤ Fk i + entA a 0 0 := by
    intro j t s hj hd
    have := (hd.insN ha (c - 1)).wlk
    rw [show k + 1 + (c - 1) = k + c by omega] at this
    obtain ⟨c1, c2⟩ := h.oc.cpl i j _ hj this
    have hf : Fk i ≠ -1000000000000000 := fun e => c1 ((h.sup i hi).1 e)
    have hs := h.sh i hi hf
    refine ⟨hf, ?_⟩
    rw [Int.natCast_add, Int.add_mul, show ((c - 1 : Nat) : Int) = (c : Int) - 1 by omega, Int.sub_mul, Int.one_mul] at c2
    omega
  have low : Fk i ≠ -1000000000000000 → F1 i ≠ -1000000000000000 ∧ Fk i + entA a 0 0 ≤ F1 i := by
    intro hf
    obtain ⟨j, t, s, hj, hd, e⟩ := K i hi hf
    obtain ⟨c1, c2⟩ := h.o1.cpl i j _ hj (hd.ins ha rfl).wlk
    refine ⟨c1, ?_⟩
    rw [Int.natCast_add, Int.add_mul] at c2
    simp only [Int.natCast_one, Int.one_mul] at c2
    omega
  have high : F1 i ≠ -1000000000000000 → Fk i ≠ -1000000000000000 ∧ F1 i ≤ Fk i + entA a 0 0 := by
    intro hf1
    obtain ⟨j, w, hj, hw, e⟩ := (h.o1.snd i hi).resolve_left hf1
    obtain ⟨v, t, s, hd, rfl⟩ := hw.dw
    cases v with
    | true => rw [e]; exact via j t s hj hd
    | false =>
      have x1 := xb j hj
      have ht : t = 0 := by
        apply Classical.byContradiction
        intro hne
        have := hd.ge1 (by omega)
        cases this
      subst ht
      have b1 := hd.sm h.sa
      generalize hm : k + 1 = m at hd
      generalize hvv : false = v at hd
      generalize htt : 0 = t at hd
      cases hd with
      | nil hj => omega
      | loop => cases hvv
      | step v t m0 u _ s0 hd0 hi' hau hne =>
        obtain rfl : m0 = k := by omega
        subst htt
        have hv0 : v = false := by cases v with
          | true => simp at hvv
          | false => rfl
        subst hv0
        have hu := hd0.lt.2.1
        have hwu := hd0.wlk
        obtain ⟨c1, c2⟩ := h.ok.cpl u j _ hj hwu
        obtain ⟨j', t', s', hj', hd', e'⟩ := K u hu c1
        have b0 := hd0.sm h.sa
        have b' := hd'.sm h.sa
        have l' := hd'.lt.2.2
        have x2 := xb j' hj'
        have hau2 := (h.sa i u hi hu hne).resolve_left hau
        have hstep := DW.step true t' m0 u i s' hd' hi hau hne
        simp only [Bool.true_or] at hstep
        obtain ⟨f1, f2⟩ := via j' t' _ hj' hstep
        refine ⟨f1, ?_⟩
        obtain ⟨j3, t3, s3, hj3, hd3, e3⟩ := K i hi f1
        have b3 := hd3.sm h.sa
        have l3 := hd3.lt.2.2
        have x3 := xb j3 hj3
        simp only [Int.natCast_zero, Int.zero_mul, Int.zero_add] at c2 e
        rcases hα with hα | hα
        · have := Int.mul_nonneg (show (0 : Int) ≤ t3 by omega) (show 0 ≤ entA a 0 0 by omega)
          omega
        · exfalso
          have m3 := Int.mul_nonneg (show (0 : Int) ≤ t3 by omega) (show 0 ≤ -entA a 0 0 by omega)
          rw [Int.mul_neg] at m3
          by_cases ht' : t' = 0
          · subst ht'
            simp only [Int.natCast_zero, Int.zero_mul, Int.zero_add] at f2
            omega
          · obtain ⟨d, rfl⟩ : ∃ d, t' = d + 1 := ⟨t' - 1, by omega⟩
            have m1 := Int.mul_nonneg (show (0 : Int) ≤ d by omega) (show 0 ≤ -entA a 0 0 by omega)
            rw [Int.mul_neg] at m1
            rw [Int.natCast_add, Int.add_mul] at e'
            simp only [Int.natCast_one, Int.one_mul] at e'
            omega
  refine ⟨⟨fun e => ?_, fun e => ?_⟩, fun hf => ?_⟩
  · exact Classical.byContradiction fun hne => (high hne).1 e
  · exact Classical.byContradiction fun hne => (low hne).1 e
  · have l := low hf
    have u := high l.1
    omega

def SmM (a : List (List Int)) : Prop := ∀ i j, ¬ (j = 0 ∧ i = 0) → entA a i j = -1000000000000000 ∨ (-10 ≤ entA a i j ∧ entA a i j ≤ 15)
def SmV (x : List Int) : Prop := ∀ v ∈ x, v = -1000000000000000 ∨ (-15 ≤ v ∧ v ≤ 15)
theorem TC_and {α : Type} {m : M α} {P Q : α → Prop} (h : M.TC m P) (g : M.TC m Q) : M.TC m (fun r => P r ∧ Q r) := by
  obtain ⟨r, h1, h2⟩ := h
  obtain ⟨r', g1, g2⟩ := g
  have := M.Conv.unique h1 g1
  subst this
  exact ⟨r, h1, h2, g2⟩
theorem SmM.of {m n : Nat} {f : Nat → Nat → Int} (hf : ∀ i j, ¬ (j = 0 ∧ i = 0) → f i j = -1000000000000000 ∨ (-10 ≤ f i j ∧ f i j ≤ 15)) : SmM (matF m n f) := by
  intro i j hne
  by_cases hi : i < m
  · by_cases hj : j < n
    · rw [entA_matF hi hj]; exact hf i j hne
    · right
      have : entA (matF m n f) i j = 0 := by
        unfold entA matF
        rw [tab_get hi]
        simp only [Option.getD_some]
        rw [List.getElem?_eq_none (by rw [tab_len]; omega)]; rfl
      rw [this]; omega
  · right
    have : entA (matF m n f) i j = 0 := by
      unfold entA matF
      rw [show (tab m fun i => tab n (f i))[i]? = none from List.getElem?_eq_none (by rw [tab_len]; omega)]; rfl
    rw [this]; omega
theorem size_sm {code : List Int} (hc : ByC code) {s : TL01source} (hs : Src code s) (m n : Nat) (hm : 1 ≤ m ∧ m ≤ 10) (hn : 1 ≤ n ∧ n ≤ 10) : M.TC (spec_l02DrawSize s (m : Int) (n : Int)) (fun r => SmM r.1) := by
  unfold spec_l02DrawSize
  rw [hs.code_]
  let J : Int × Int × List (List Int) → Prop := fun r => Src code ⟨code, r.1, r.2.1⟩ ∧ ∃ f, r.2.2 = matF m n f ∧ ∀ i j, f i j = -1000000000000000 ∨ (-10 ≤ f i j ∧ f i j ≤ 15)
  refine M.TC_bindC (spec_l02Bottom_ok (by omega) (by omega)) (M.TC_bind (pick_ok hc hs _ (by simp) (by simp) (fun x => 2 ≤ x ∧ x ≤ 5) (by simp)) fun p hp => ?_)
  refine M.TC_bind (Mid := J) (M.TC_for (fun _ r => J r) _ (by omega) (by omega) ⟨hp.1.mk' rfl, _, rfl, fun _ _ => .inl rfl⟩ (fun i r h1 h2 hI => ?_) (fun _ _ _ hI => hI)) fun r hr => ?_
  · refine M.TC_bind (Mid := J) (M.TC_for (fun _ r => J r) _ (by omega) (by omega) hI (fun j r h3 h4 hI => ?_) (fun _ _ _ hI => hI)) fun r hr => M.TC_ret (.inl ⟨_, rfl, hr⟩)
    obtain ⟨hsr, f, hf, hfi⟩ := hI
    refine M.TC_bind (next_ok hc hsr p.1 (by omega)) fun x hx => ?_
    refine M.TC_bind (Mid := J) (M.TC_ite (fun _ => ?_) (fun _ => M.TC_ret ⟨hx.1.mk' rfl, f, hf, hfi⟩)) fun r hr => M.TC_ret (.inl ⟨_, rfl, hr⟩)
    rw [hf]
    obtain ⟨i', rfl⟩ : ∃ q : Nat, i = (q : Int) := ⟨i.toNat, by omega⟩
    obtain ⟨j', rfl⟩ : ∃ q : Nat, j = (q : Int) := ⟨j.toNat, by omega⟩
    refine M.TC_bindC (idx_tab (by omega)) (M.TC_bind (next_ok hc (hx.1.mk' rfl) 26 (by omega)) fun y hy => ?_)
    refine M.TC_bindC (idx_tab (by omega)) (M.TC_bindC (M.Conv_upd (by rw [tab_len]; omega)) (M.TC_ret ⟨hy.1.mk' rfl, fun p q => if p = i' ∧ q = j' then w64 (y.1 - 10) else f p q, ?_, fun p q => ?_⟩))
    · simp only [Int.toNat_natCast]
      have := matF_set (m := m) (n := n) (i := i') (j := j') (f := f) (g := fun p q => if p = i' ∧ q = j' then w64 (y.1 - 10) else f p q) (fun p q _ _ hpq => by rw [if_neg hpq])
      simpa using this
    · simp only
      split
      · have := hy.2
        rw [w64_eq _ (by omega)]; omega
      · exact hfi p q
  · obtain ⟨hsr, f, hf, hfi⟩ := hr
    refine M.TC_bind (next_ok hc hsr 60 (by omega)) fun x hx => ?_
    rw [hf]
    have hM : SmM (matF m n f) := SmM.of fun i j _ => hfi i j
    refine M.TC_ite (fun _ => ?_) (fun _ => M.TC_ite (fun _ => ?_) (fun _ => M.TC_ite (fun _ => ?_) (fun _ => M.TC_ret hM)))
    · refine M.TC_bindC (idx_tab (i := 0) (by omega)) (M.TC_bind (value_ok hc (hx.1.mk' rfl)) fun y hy => ?_)
      refine M.TC_bindC (idx_tab (i := 0) (by omega)) (M.TC_bindC (M.Conv_upd (i := 0) (by rw [tab_len]; omega)) (M.TC_ret ?_))
      have := matF_set (m := m) (n := n) (i := 0) (j := 0) (f := f) (g := fun p q => if p = 0 ∧ q = 0 then y.1 else f p q) (fun p q _ _ hpq => by rw [if_neg hpq])
      rw [if_pos ⟨rfl, rfl⟩] at this
      rw [this]
      refine SmM.of fun p q hne => ?_
      rw [if_neg (by omega)]
      exact hfi p q
    · refine M.TC_bindC (M.Conv_app (by rw [matF_len]; simp; omega)) (M.TC_ret ?_)
      intro i j hne
      by_cases hi : i < (matF m n f).length
      · have : entA (matF m n f ++ [[]]) i j = entA (matF m n f) i j := by unfold entA; rw [List.getElem?_append_left hi]
        rw [this]; exact hM i j hne
      · right
        have : entA (matF m n f ++ [[]]) i j = 0 := by
          unfold entA
          rw [List.getElem?_append_right (by omega)]
          cases i - (matF m n f).length with
          | zero => simp
          | succ k => simp
        rw [this]; omega
    · exact M.TC_ret fun i j _ => .inr (by simp [entA])
theorem draw7_sm {code : List Int} (hc : ByC code) {s : TL01source} (hs : Src code s) : M.TC (spec_l07Draw s) (fun r => SmM r.1) := by
  unfold spec_l07Draw
  rw [hs.code_]
  refine M.TC_bind (next_ok hc hs 4 (by omega)) fun x hx => M.TC_bind (next_ok hc (hx.1.mk' rfl) 40 (by omega)) fun y hy => M.TC_ite (fun _ => ?_) (fun _ => ?_)
  · refine M.TC_bind (pick_ok hc (hy.1.mk' rfl) _ (by simp) (by simp) inI64 (by simp [inI64])) fun z hz => M.TC_ret fun i j hne => ?_
    right
    have : entA [[z.1]] i j = 0 := by
      unfold entA
      cases i with
      | succ i => simp
      | zero =>
        cases j with
        | succ j => simp
        | zero => exact absurd ⟨rfl, rfl⟩ hne
    rw [this]; omega
  · have e1 : w64 (1 + x.1) = ((x.1.toNat + 1 : Nat) : Int) := by rw [w64_eq _ (by omega)]; omega
    rw [e1]
    exact M.TC_bind (size_sm hc (hy.1.mk' rfl) _ _ (by omega) (by omega)) fun z hz => M.TC_ret hz
theorem vector_sm {code : List Int} (hc : ByC code) {s : TL01source} (hs : Src code s) (n : Int) (h0 : 0 ≤ n) (hn : n ≤ 15) : M.TC (spec_l02DrawVector s n) (fun r => (r.1.length : Int) ≤ n → SmV r.1) := by
  unfold spec_l02DrawVector
  rw [hs.code_]
  refine M.TC_bind (Mid := fun (r : Int × Int × Int × List Int) => Src code ⟨code, r.1, r.2.1⟩ ∧ SmV r.2.2.2 ∧ (r.2.2.2.length : Int) = n) (M.TC_loop (fun (r : Int × Int × Int × List Int) => Src code ⟨code, r.1, r.2.1⟩ ∧ SmV r.2.2.2 ∧ 0 ≤ r.2.2.1 ∧ (r.2.2.2.length : Int) + r.2.2.1 = n) (fun r => r.2.2.1.toNat) _ ⟨hs.mk' rfl, fun v hv => by simp at hv, h0, by simp⟩ fun r hI => ?_) fun r hr => ?_
  · obtain ⟨h1, h2, h3, h4⟩ := hI
    refine M.TC_ite (fun t => ?_) (fun t => M.TC_ret (.inr ⟨_, rfl, h1, h2, by have := of_decide_eq_false t; simp only; omega⟩))
    have t : 0 < r.2.2.1 := by simpa using t
    refine M.TC_bind (next_ok hc h1 31 (by omega)) fun x hx => ?_
    refine M.TC_bindC (M.Conv_app (by simp; omega)) (M.TC_bind (next_ok hc (hx.1.mk' rfl) 8 (by omega)) fun y hy => ?_)
    have hv : SmV (r.2.2.2 ++ [w64 (x.1 - 15)]) := fun v hv => by
      rcases List.mem_append.1 hv with hv | hv
      · exact h2 v hv
      · rw [List.mem_singleton.1 hv, w64_eq _ (by have := hx.2; omega)]
        have := hx.2; omega
    have hl : (r.2.2.2 ++ [w64 (x.1 - 15)]).length = r.2.2.2.length + 1 := by simp
    refine M.TC_bind (Mid := fun l => SmV l ∧ l.length = r.2.2.2.length + 1) (M.TC_ite (fun _ => ?_) (fun _ => M.TC_ret ⟨hv, hl⟩)) fun l hl2 => M.TC_ret (.inl ⟨_, rfl, ⟨hy.1.mk' rfl, hl2.1, ?_, ?_⟩, ?_⟩)
    · have e : w64 (((r.2.2.2 ++ [w64 (x.1 - 15)]).length : Int) - 1) = (r.2.2.2.length : Int) := by rw [hl, w64_eq _ (by omega)]; omega
      rw [e]
      refine M.TC_bindC (M.Conv_idx (x := w64 (x.1 - 15)) (by simp)) (M.TC_bindC (M.Conv_upd (by simp)) (M.TC_ret ⟨fun v hv2 => ?_, by rw [List.length_set, hl]⟩))
      rcases List.mem_or_eq_of_mem_set hv2 with hv2 | hv2
      · exact hv v hv2
      · exact .inl hv2
    · simp only; rw [w64_eq _ (by omega)]; omega
    · simp only; rw [w64_eq _ (by omega)]; omega
    · simp only; rw [w64_eq _ (by omega)]; omega
  · obtain ⟨h1, h2, h3⟩ := hr
    refine M.TC_bind (next_ok hc h1 60 (by omega)) fun x hx => ?_
    refine M.TC_ite (fun _ => ?_) (fun _ => M.TC_ite (fun _ => M.TC_ret fun _ v hv => by simp at hv) (fun _ => M.TC_ret fun _ => h2))
    exact M.TC_bind (value_ok hc (hx.1.mk' rfl)) fun y hy => M.TC_bindC (M.Conv_app (by simp; omega)) (M.TC_ret fun h => by simp at h; omega)
theorem pair7_sm {code : List Int} (hc : ByC code) {s : TL01source} (hs : Src code s) : M.TC (spec_l07DrawPair s) (fun r => SmM r.1 ∧ (r.2.1.length = r.1.length → SmV r.2.1)) := by
  unfold spec_l07DrawPair
  rw [hs.code_]
  refine M.TC_bind (TC_and (draw7_ok hc hs) (draw7_sm hc hs)) fun x hx => M.TC_bind (next_ok hc (hx.1.2.mk' rfl) 24 (by omega)) fun y hy => ?_
  have hl := hx.1.1.rows
  refine M.TC_bind (Mid := fun n => 0 ≤ n ∧ n ≤ 15 ∧ (x.1.length : Int) ≤ n) (M.TC_ite (fun _ => M.TC_ret ?_) (fun _ => M.TC_ret ?_)) fun n hn => M.TC_bind (vector_sm hc (hy.1.mk' rfl) _ hn.1 hn.2.1) fun z hz => M.TC_ret ⟨hx.2, fun e => hz (by have e : z.1.length = x.1.length := e; omega)⟩
  · rw [w64_eq _ (by omega)]; omega
  · omega
theorem DrawOrbitRepeats_sm {code : List Int} (hc : ByC code) : M.TC (spec_DrawOrbitRepeats code) (fun r => (MatS r.1 ∧ VecS r.2) ∧ SmM r.1 ∧ (r.2.length = r.1.length → SmV r.2)) := by
  unfold spec_DrawOrbitRepeats
  exact M.TC_bind (from_ok hc) fun s hs => M.TC_bind (TC_and (pair7_ok hc hs) (pair7_sm hc hs)) fun x hx => M.TC_ret ⟨⟨hx.1.1, hx.1.2.1⟩, hx.2⟩
def xF (x : List Int) (j : Nat) : Int := if j < x.length then nd x j else -1000000000000000
theorem orp {a : List (List Int)} {x : List Int} (hs : Ser a (colX x) 1) (hl : x.length = a.length) : ∀ m, okTo a (colX x) m → OrP a a.length (xF x) m (fun i => entA (pw a (colX x) m) i 0)
  | 0, _ => by
    have hz : ∀ i, i < a.length → entA (pw a (colX x) 0) i 0 = xF x i := fun i hi => by
      show entA (colX x) i 0 = xF x i
      unfold colX xF
      rw [entA_matF (by omega) (by omega), if_pos (by omega)]; rfl
    refine ⟨fun i hi => ?_, fun i j w hj hw => ?_⟩
    · simp only [hz i hi]
      by_cases e : xF x i = -1000000000000000
      · exact .inl e
      · exact .inr ⟨i, 0, e, .nil hi, by omega⟩
    · cases hw with
      | nil hj' => simp only [hz _ hj']; exact ⟨hj, by omega⟩
  | m + 1, ok => by
    have ih := orp hs hl m (ok.mono (by omega))
    have hB := mat_ent hs.mat
    have hP := hs.pm ok (i := m) (by omega)
    have hlen := (hs.shp m).2
    have bP : ∀ j, j < a.length → entA (pw a (colX x) m) j 0 = -1000000000000000 ∨ (-1000000 ≤ entA (pw a (colX x) m) j 0 ∧ entA (pw a (colX x) m) j 0 ≤ 1000000) := fun j hj => val_cases (ent_val hP (by omega) (by omega)).2.2
    have key : ∀ i, i < a.length → DotP (entA a i) (fun j => entA (pw a (colX x) m) j 0) a.length (entA (pw a (colX x) (m + 1)) i 0) := fun i hi => mul_dot hs.mat.shp (hs.shp m).1 hlen (fun i j hi hj => by
      have := hB i j hi hj
      unfold Bd; omega) (fun j k hj hk => by
      obtain rfl : k = 0 := by omega
      have := bP j hj
      unfold Bd; omega) hi (by omega)
    refine ⟨fun i hi => ?_, fun i j w hj hw => ?_⟩
    · rcases (key i hi).on with e | ⟨j, hj, e1, e2, e3⟩
      · exact .inl e
      · obtain ⟨j0, w, hj0, hw, ew⟩ := (ih.snd j hj).resolve_left e2
        refine .inr ⟨j0, w + entA a i j, hj0, .step m j i w hw hi e1, ?_⟩
        try simp only at ew e3 ⊢
        omega
    · have hi := hw.lt.2
      cases hw with
      | step _ i1 _ w1 hw1 _ ha =>
        obtain ⟨c1, c2⟩ := ih.cpl i1 j w1 hj hw1
        have c3 := (key i hi).up i1 hw1.lt.2 ha c1
        have c4 := (hB i i1 hi hw1.lt.2).resolve_left ha
        have c5 := (bP i1 hw1.lt.2).resolve_left c1
        try simp only at c2 c3 ⊢
        omega
theorem growth_small {a : List (List Int)} {x : List Int} (hs : Ser a (colX x) 1) (hl : x.length = a.length) (sa : SmM a) (sx : SmV x) {k c : Nat} {g : Int} (hc1 : 1 ≤ c) (hkc : k + c ≤ 100) (ok : okTo a (colX x) (k + c)) (hsh : ShiftM (pw a (colX x) k) (pw a (colX x) (k + c)) a.length 1 g)
    (hmin : 2 ≤ c → ∀ g', ¬ ShiftM (pw a (colX x) k) (pw a (colX x) (k + 1)) a.length 1 g') (hz : g = 0 ∨ ∃ i j, i < a.length ∧ j < 1 ∧ entA (pw a (colX x) k) i j ≠ -1000000000000000) : -1000000 ≤ g ∧ g ≤ 1000000 := by
  have hrows := hs.mat.rows
  have hB := mat_ent hs.mat
  apply Classical.byContradiction
  intro hno
  obtain ⟨i0, j0, hi0, hj0, hf0⟩ := hz.resolve_left (by omega)
  obtain rfl : j0 = 0 := by omega
  have ok0 := orp hs hl k (ok.mono (by omega))
  have ok1 := orp hs hl (k + 1) (ok.mono (by omega))
  have okc := orp hs hl (k + c) ok
  have pair := fun i (hi : i < a.length) => hsh i 0 hi (by omega)
  by_cases h2 : 2 ≤ c
  · have hrep : RepP a a.length (xF x) k c g (fun i => entA (pw a (colX x) k) i 0) (fun i => entA (pw a (colX x) (k + 1)) i 0) (fun i => entA (pw a (colX x) (k + c)) i 0) := by
      refine ⟨fun i j _ _ hne => sa i j hne, fun i hi => ?_, ok0, ok1, okc, hkc, h2, by omega, fun i hi => ?_, fun i hi hf => ?_, ⟨i0, hi0, hf0⟩⟩
      · unfold xF
        rw [if_pos (by omega)]
        have hi' : i < x.length := by omega
        have := sx _ (List.getElem_mem hi')
        simpa [nd, hi'] using this
      · rcases pair i hi with ⟨p1, p2⟩ | ⟨p1, p2, _⟩
        · exact ⟨fun _ => p2, fun _ => p1⟩
        · exact ⟨fun h => absurd h p1, fun h => absurd h p2⟩
      · rcases pair i hi with ⟨p1, _⟩ | ⟨_, _, p3⟩
        · exact absurd p1 hf
        · (try simp only); omega
    have hnext := hrep.next (fun i hi => by unfold xF; rw [if_neg (by omega)]) (by omega)
    refine hmin h2 (entA a 0 0) fun i j hi hj => ?_
    obtain rfl : j = 0 := by omega
    obtain ⟨q1, q2⟩ := hnext i hi
    try simp only at q1 q2
    by_cases e : entA (pw a (colX x) k) i 0 = -1000000000000000
    · exact .inl ⟨e, q1.1 e⟩
    · exact .inr ⟨e, fun h => e (q1.2 h), by have := q2 e; omega⟩
  · obtain rfl : c = 1 := by omega
    -- every node of the support has a node before it
    have pre : ∀ i, i < a.length → entA (pw a (colX x) k) i 0 ≠ -1000000000000000 → ∃ u, u < a.length ∧ entA (pw a (colX x) k) u 0 ≠ -1000000000000000 ∧ (-1000000 ≤ entA a i u ∧ entA a i u ≤ 1000000) ∧ entA (pw a (colX x) (k + 1)) i 0 = entA (pw a (colX x) k) u 0 + entA a i u := by
      intro i hi hf
      have hf1 : entA (pw a (colX x) (k + 1)) i 0 ≠ -1000000000000000 := by
        rcases pair i hi with ⟨p1, _⟩ | ⟨_, p2, _⟩
        · exact absurd p1 hf
        · exact p2
      obtain ⟨j, w, hj, hw, e⟩ := (ok1.snd i hi).resolve_left hf1
      cases hw with
      | step _ u _ w1 hw1 _ ha =>
        obtain ⟨c1, c2⟩ := ok0.cpl u j w1 hj hw1
        have hu := hw1.lt.2
        obtain ⟨j', w', hj', hw', e'⟩ := (ok0.snd u hu).resolve_left c1
        have c3 := (ok1.cpl i j' _ hj' (.step k u i w' hw' hi ha)).2
        try simp only at e e' c2 c3
        exact ⟨u, hu, c1, (hB i u hi hu).resolve_left ha, by omega⟩
    have val : ∀ i, i < a.length → entA (pw a (colX x) k) i 0 ≠ -1000000000000000 → entA (pw a (colX x) (k + 1)) i 0 = entA (pw a (colX x) k) i 0 + g := fun i hi hf => by
      rcases pair i hi with ⟨p1, _⟩ | ⟨_, _, p3⟩
      · exact absurd p1 hf
      · omega
    have hP := hs.pm ok (i := k) (by omega)
    have hlen := (hs.shp k).2
    have bP : ∀ j, j < a.length → entA (pw a (colX x) k) j 0 = -1000000000000000 ∨ (-1000000 ≤ entA (pw a (colX x) k) j 0 ∧ entA (pw a (colX x) k) j 0 ≤ 1000000) := fun j hj => val_cases (ent_val hP (by omega) (by omega)).2.2
    obtain ⟨i1, ⟨hi1, hf1⟩, hmax⟩ := exists_max (P := fun i => i < a.length ∧ entA (pw a (colX x) k) i 0 ≠ -1000000000000000) (fun i => entA (pw a (colX x) k) i 0) 1000000 (fun i hi => ((bP i hi.1).resolve_left hi.2).2) ⟨i0, hi0, hf0⟩
    obtain ⟨i2, ⟨hi2, hf2⟩, hmin2⟩ := exists_max (P := fun i => i < a.length ∧ entA (pw a (colX x) k) i 0 ≠ -1000000000000000) (fun i => - entA (pw a (colX x) k) i 0) 1000000 (fun i hi => by have := ((bP i hi.1).resolve_left hi.2).1; omega) ⟨i0, hi0, hf0⟩
    obtain ⟨u1, a1, a2, a3, a4⟩ := pre i1 hi1 hf1
    obtain ⟨u2, b1, b2, b3, b4⟩ := pre i2 hi2 hf2
    have m1 := hmax u1 ⟨a1, a2⟩
    have m2 := hmin2 u2 ⟨b1, b2⟩
    have v1 := val i1 hi1 hf1
    have v2 := val i2 hi2 hf2
    try simp only at m1 m2
    omega

end Go.Proofs.Ytjdcdcipilhmeaa
