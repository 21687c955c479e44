/-
  Plain proofs: the plain program of the law ends with true.
  Conditions: None beyond the given statement.
-/
import Derived.Test.YtfhndofgglohoaaP
namespace Go.Proofs.Ytfhndofgglohoaa
open Go
/-! ### plain programs: loops over a list -/
namespace M
variable {α β σ ρ : Type}
/-- rounds over the elements of a list, each with its place; a round may leave -/
def run (g : Nat → α → σ → σ ⊕ ρ) (fin : σ → ρ) : Nat → List α → σ → ρ
  | _, [], s => fin s
  | i, x :: xs, s => match g i x s with
    | .inl s' => run g fin (i + 1) xs s'
    | .inr r => r
theorem Conv_forN {l : List α} {f : Int → σ → M (σ ⊕ ρ)} (g : Nat → α → σ → σ ⊕ ρ) (fin : σ → ρ) (I : Nat → σ → Prop) (hi : Int) :
    ∀ (xs : List α) (i : Nat) (s : σ), hi = (i + xs.length : Nat) → I i s → (∀ (j : Nat) x s, xs[j]? = some x → I (i + j) s → Conv (f (i + j : Nat) s) (g (i + j) x s) ∧ ∀ s', g (i + j) x s = .inl s' → I (i + j + 1) s') →
      ∃ N, ∀ n, N ≤ n → forN hi fin f n xs.length i s = some (run g fin i xs s)
  | [], i, s, hh, _, _ => ⟨0, fun n _ => by
      have : ¬ (i : Int) < hi := by rw [hh]; simp
      simp [forN, run, this]⟩
  | x :: xs, i, s, hh, h0, H => by
    have hlt : (i : Int) < hi := by rw [hh]; simp; omega
    obtain ⟨⟨N, hN⟩, hI⟩ := H 0 x s rfl h0
    simp only [Nat.add_zero] at hN hI
    cases hg : g i x s with
    | inl s' =>
      have hi' := hI s' hg
      obtain ⟨N', hN'⟩ := Conv_forN (l := l) g fin I hi xs (i + 1) s' (by rw [hh, List.length_cons]; congr 1; omega) hi' (fun j y s hy hIs => by
        have := H (j + 1) y s (by simpa using hy) (by rw [← Nat.add_assoc, Nat.add_right_comm]; exact hIs)
        rw [show i + (j + 1) = i + 1 + j by omega] at this
        exact this)
      refine ⟨max N N', fun n hn => ?_⟩
      have h1 := hN n (by omega)
      rw [hg] at h1
      simp only [List.length_cons, forN, hlt, decide_true, cond_true, h1, run, hg]
      have := hN' n (by omega)
      simpa using this
    | inr r =>
      refine ⟨N, fun n hn => ?_⟩
      have h1 := hN n hn
      rw [hg] at h1
      simp only [List.length_cons, forN, hlt, decide_true, cond_true, h1, run, hg]
/-- a loop over a list, with an invariant -/
theorem Conv_forI {l : List α} {f : Int → σ → M (σ ⊕ ρ)} {fin : σ → ρ} {s : σ} (g : Nat → α → σ → σ ⊕ ρ) (I : Nat → σ → Prop) (hl : l.length ≤ 9223372036854775807) (h0 : I 0 s)
    (H : ∀ (i : Nat) x s, l[i]? = some x → I i s → Conv (f i s) (g i x s) ∧ ∀ s', g i x s = .inl s' → I (i + 1) s') : Conv (forI 0 (l.length : Int) fin f s) (run g fin 0 l s) := by
  obtain ⟨N, hN⟩ := Conv_forN (l := l) (f := f) g fin I (l.length : Int) l 0 s (by simp) h0 (fun j x s hx hI => by simpa using H j x s hx (by simpa using hI))
  refine ⟨N, fun n hn => ?_⟩
  have h1 : (l.length : Int) ≤ 9223372036854775807 := by omega
  simp only [forI, h1, decide_true, Bool.and_true, show (-9223372036854775808 : Int) ≤ 0 by decide, cond_true]
  have := hN n hn
  simpa using this
/-- .. without one -/
theorem Conv_forL {l : List α} {f : Int → σ → M (σ ⊕ ρ)} {fin : σ → ρ} {s : σ} (g : Nat → α → σ → σ ⊕ ρ) (hl : l.length ≤ 9223372036854775807)
    (H : ∀ (i : Nat) x s, l[i]? = some x → Conv (f i s) (g i x s)) : Conv (forI 0 (l.length : Int) fin f s) (run g fin 0 l s) :=
  Conv_forI g (fun _ _ => True) hl trivial fun i x s hx _ => ⟨H i x s hx, fun _ _ => trivial⟩
theorem Conv.of {m : M α} {r r' : α} (h : Conv m r) (e : r = r') : Conv m r' := e ▸ h
theorem Conv_ite {b : Bool} {x y : M α} {r : α} (h1 : b = true → Conv x r) (h2 : b = false → Conv y r) : Conv (ite b x y) r := by
  cases b
  · exact h2 rfl
  · exact h1 rfl
theorem Conv_ite2 {b : Bool} {x y : M α} {r s : α} (h1 : b = true → Conv x r) (h2 : b = false → Conv y s) : Conv (ite b x y) (bif b then r else s) := by
  cases b
  · exact h2 rfl
  · exact h1 rfl
theorem Conv_guard {b : Bool} (h : b = true) : Conv (guard b) () := ⟨0, fun _ _ => by simp [guard, h]⟩
theorem Conv_upd {l : List α} {i : Nat} {x : α} (h : i < l.length) : Conv (upd l i x) (l.set i x) := ⟨0, fun _ _ => by simp [upd, h]⟩
theorem Conv_get {l : List α} {i : Int} {x : α} (h0 : 0 ≤ i) (h : l[i.toNat]? = some x) : Conv (idx l i) x := ⟨0, fun _ _ => by simp [idx, h0, h]⟩
/-- a value told in both ways of a test, then the rest -/
theorem Conv_bite {b : Bool} {x y : M α} {f : α → M β} {u v : α} {r : β} (h1 : b = true → Conv x u) (h2 : b = false → Conv y v) (g : Conv (f (bif b then u else v)) r) : Conv (bind (ite b x y) f) r :=
  Conv_bind (Conv_ite2 h1 h2) g

/-! searches: a loop that leaves at the first element of a kind -/
theorem run_all (p : α → Bool) (u : Unit ⊕ ρ) : ∀ (i : Nat) (l : List α), run (ρ := Unit ⊕ ρ) (fun _ x _ => bif p x then .inl () else .inr u) (fun s => .inl s) i l () = bif l.all p then .inl () else u
  | _, [] => rfl
  | i, x :: xs => by
    simp only [run, List.all_cons]
    cases p x
    · rfl
    · simpa using run_all p u (i + 1) xs
/-- 'for .. if not p x, return v' -/
theorem Conv_all {l : List α} {f : Int → Unit → M (Unit ⊕ (Unit ⊕ ρ))} (p : α → Bool) (v : ρ) (hl : l.length ≤ 9223372036854775807) (H : ∀ (i : Nat) x, l[i]? = some x → Conv (f i ()) (bif p x then .inl () else .inr (.inr v))) :
    Conv (forI 0 (l.length : Int) (fun s => .inl s) f ()) (bif l.all p then .inl () else .inr v) :=
  (Conv_forL (fun _ x _ => bif p x then .inl () else .inr (.inr v)) hl fun i x _ hx => H i x hx).of (run_all p (.inr v) 0 l)
/-- the same, where the element's place matters to the test -/
theorem run_allI (p : Nat → α → Bool) (u : Unit ⊕ ρ) : ∀ (i : Nat) (l : List α), run (ρ := Unit ⊕ ρ) (fun j x _ => bif p j x then .inl () else .inr u) (fun s => .inl s) i l () = bif (l.zipIdx i).all (fun q => p q.2 q.1) then .inl () else u
  | _, [] => rfl
  | i, x :: xs => by
    simp only [run, List.zipIdx_cons, List.all_cons]
    cases p i x
    · rfl
    · simpa using run_allI p u (i + 1) xs
theorem Conv_allI {l : List α} {f : Int → Unit → M (Unit ⊕ (Unit ⊕ ρ))} (p : Nat → α → Bool) (v : ρ) (hl : l.length ≤ 9223372036854775807) (H : ∀ (i : Nat) x, l[i]? = some x → Conv (f i ()) (bif p i x then .inl () else .inr (.inr v))) :
    Conv (forI 0 (l.length : Int) (fun s => .inl s) f ()) (bif (l.zipIdx 0).all (fun q => p q.2 q.1) then .inl () else .inr v) :=
  (Conv_forL (fun j x _ => bif p j x then .inl () else .inr (.inr v)) hl fun i x _ hx => H i x hx).of (run_allI p (.inr v) 0 l)
/-- 'for i .. if p x, return i' -/
theorem run_find (p : α → Bool) : ∀ (i : Nat) (l : List α), run (σ := Unit) (ρ := Unit ⊕ Int) (fun j x _ => bif p x then .inr (.inr (j : Int)) else .inl ()) (fun s => .inl s) i l () = match l.findIdx? p with
    | some j => .inr ((i + j : Nat) : Int)
    | none => .inl ()
  | _, [] => rfl
  | i, x :: xs => by
    simp only [run, List.findIdx?_cons]
    cases hp : p x
    · simp only [cond_false, run_find p (i + 1) xs, Bool.false_eq_true, if_false]
      cases xs.findIdx? p with
      | none => rfl
      | some j => simp only [Option.map_some]; congr 2; omega
    · simp
theorem Conv_find {l : List α} {f : Int → Unit → M (Unit ⊕ (Unit ⊕ Int))} (p : α → Bool) (hl : l.length ≤ 9223372036854775807) (H : ∀ (i : Nat) x, l[i]? = some x → Conv (f i ()) (bif p x then .inr (.inr (i : Int)) else .inl ())) :
    Conv (forI 0 (l.length : Int) (fun s => .inl s) f ()) (match l.findIdx? p with | some j => .inr (j : Int) | none => .inl ()) :=
  (Conv_forL (fun j x _ => bif p x then .inr (.inr (j : Int)) else .inl ()) hl fun i x _ hx => H i x hx).of (by rw [run_find]; simp)
/-- sums: each round turns what has been gathered -/
theorem run_fold (g : σ → α → σ) : ∀ (i : Nat) (l : List α) (s : σ), run (fun _ x s => .inl (g s x)) (fun s => s) i l s = l.foldl g s
  | _, [], _ => rfl
  | i, x :: xs, s => by simpa [run] using run_fold g (i + 1) xs (g s x)
theorem Conv_fold {l : List α} {f : Int → σ → M (σ ⊕ σ)} {s : σ} (g : σ → α → σ) (hl : l.length ≤ 9223372036854775807) (H : ∀ (i : Nat) x s, l[i]? = some x → Conv (f i s) (.inl (g s x))) :
    Conv (forI 0 (l.length : Int) (fun s => s) f s) (l.foldl g s) :=
  (Conv_forL (fun _ x s => .inl (g s x)) hl fun i x s hx => H i x s hx).of (run_fold g 0 l s)
theorem get_set_append {l r : List α} {x y : α} : (l ++ y :: r).set l.length x = l ++ x :: r := by simp
/-- a loop that fills a list of the same length, element by element -/
theorem run_fill (g : Nat → α → β) (z : β) : ∀ (i : Nat) (l : List α) (d : List β), d.length = i →
    run (fun j x s => .inl (s.set j (g j x))) (fun s => s) i l (d ++ List.replicate l.length z) = d ++ (l.zipIdx i).map (fun q => g q.2 q.1)
  | _, [], d, _ => by simp [run]
  | i, x :: xs, d, hd => by
    subst hd
    simp only [run, List.length_cons, List.replicate_succ, get_set_append]
    have := run_fill g z (d.length + 1) xs (d ++ [g d.length x]) (by simp)
    simp only [List.append_assoc, List.singleton_append] at this
    rw [this]
    simp
theorem Conv_fill {l : List α} {f : Int → List β → M (List β ⊕ List β)} (g : Nat → α → β) (z : β) (hl : l.length ≤ 9223372036854775807)
    (H : ∀ (i : Nat) x s, l[i]? = some x → s.length = l.length → Conv (f i s) (.inl (s.set i (g i x)))) :
    Conv (forI 0 (l.length : Int) (fun s => s) f (List.replicate l.length z)) ((l.zipIdx 0).map (fun q => g q.2 q.1)) := by
  refine (Conv_forI (fun j x s => .inl (s.set j (g j x))) (fun _ s => s.length = l.length) hl (by simp) fun i x s hx hI => ⟨H i x s hx hI, fun s' e => ?_⟩).of ?_
  · cases e; simpa using hI
  · simpa using run_fill g z 0 l [] rfl
theorem zipIdx_map_fst {l : List α} {g : α → β} {i : Nat} : ((l.zipIdx i).map fun q => g q.1) = l.map g := by
  have h : List.map (g ∘ Prod.fst) (l.zipIdx i) = List.map g l := by rw [← List.map_map, List.zipIdx_map_fst]
  exact h
theorem findIdx_any {l : List α} {p : α → Bool} : (decide ((0:Int) ≤ match l.findIdx? p with | some j => (j : Int) | none => -1)) = l.any p := by
  cases h : l.findIdx? p with
  | none => rw [List.findIdx?_eq_none_iff] at h; simp; exact fun x hx => by simpa using h x hx
  | some j =>
    obtain ⟨hj, hp, _⟩ := List.findIdx?_eq_some_iff_getElem.1 h
    simp
    exact ⟨_, List.getElem_mem hj, hp⟩
end M
def finB (x : Int) : Bool := decide (-1000000 ≤ x) && decide (x ≤ 1000000)
def valB (x : Int) : Bool := x == (-1000000000000000) || finB x
theorem toInt64S_ok {a : List Int} (h : a.length ≤ 1099511627776) : M.Conv (laws_toInt64S a) a := by
  unfold laws_toInt64S
  refine M.Conv_bind (M.Conv_make (by omega) (by omega)) ?_
  refine M.Conv_bind (x := a) (((M.Conv_fill (l := a) (f := _) (fun _ x => x) 0 (by omega) fun i x s hx hs => ?_)).of ?_) (M.Conv_ret _)
  · have hi := (List.getElem?_eq_some_iff.1 hx).1
    refine M.Conv_bind (M.Conv_get (by omega) (by simpa using hx)) ?_
    refine M.Conv_bind (M.Conv_get (x := s[i]) (by omega) (by simp [show i < s.length by omega])) ?_
    exact M.Conv_bind (M.Conv_upd (by omega)) (M.Conv_ret _)
  · exact M.zipIdx_map_fst.trans (List.map_id' _)
theorem eqInt64S_ok {a b : List Int} (ha : a.length ≤ 9223372036854775807) : M.Conv (laws_eqInt64S a b) (decide (a = b)) := by
  unfold laws_eqInt64S
  refine M.Conv_ite (fun h => ?_) (fun h => ?_)
  · have : a ≠ b := by rintro rfl; simp at h
    rw [decide_eq_false this]; exact M.Conv_ret _
  · have hl : a.length = b.length := Int.ofNat.inj (by simpa using h)
    refine M.Conv_bind (M.Conv_allI (fun i x => b[i]? == some x) false ha fun i x hx => ?_) ?_
    · have hi := (List.getElem?_eq_some_iff.1 hx).1
      refine M.Conv_bind (M.Conv_get (by omega) (by simpa using hx)) ?_
      refine M.Conv_bind (M.Conv_get (x := b[i]) (by omega) (by simp [show i < b.length by omega])) ?_
      have hb : (b[i]? == some x) = !(x != b[i]) := by rw [List.getElem?_eq_getElem (by omega), bne, Bool.not_not, Option.some_beq_some, BEq.comm]
      rw [hb]
      cases (x != b[i]) <;> exact M.Conv_ret _
    · have key : ((a.zipIdx 0).all fun q => b[q.2]? == some q.1) = decide (a = b) := by
        by_cases e : a = b
        · subst e
          rw [decide_eq_true rfl, List.all_eq_true]
          rintro ⟨x, i⟩ hq
          have := List.mk_mem_zipIdx_iff_getElem?.1 hq
          simp [this]
        · rw [decide_eq_false e, Bool.eq_false_iff]
          intro h
          apply e
          rw [List.all_eq_true] at h
          refine List.ext_getElem hl fun i h1 h2 => ?_
          have := h (a[i], i) (List.mk_mem_zipIdx_iff_getElem?.2 (List.getElem?_eq_getElem h1))
          simp [h2] at this
          exact this.symm
      rw [key]
      cases decide (a = b) <;> exact M.Conv_ret _
theorem spec_l01In_ok (x lo hi : Int) : M.Conv (spec_l01In x lo hi) (decide (lo ≤ x) && decide (x ≤ hi)) := M.Conv_ret _
theorem spec_l01Finite_ok (x : Int) : M.Conv (spec_l01Finite x) (finB x) := M.Conv_bind (spec_l01In_ok _ _ _) (M.Conv_ret _)
theorem spec_IsValue_ok (x : Int) : M.Conv (spec_IsValue x) (valB x) := by
  unfold spec_IsValue
  refine M.Conv_bind (M.Conv_ite (r := valB x) (fun h => ?_) (fun h => ?_)) (M.Conv_ret _)
  · simp only [valB, h, Bool.true_or]; exact M.Conv_ret _
  · simp only [valB, h, Bool.false_or]; exact M.Conv_bind (spec_l01Finite_ok x) (M.Conv_ret _)
theorem spec_l01All_ok {l : List Int} (f : Bool) (hl : l.length ≤ 9223372036854775807) : M.Conv (spec_l01All l f) (l.all fun x => valB x && !(f && x == (-1000000000000000))) := by
  unfold spec_l01All
  refine M.Conv_bind (M.Conv_all (fun x => valB x && !(f && x == (-1000000000000000))) false hl fun i x hx => ?_) ?_
  · refine M.Conv_bind (M.Conv_get (by omega) (by simpa using hx)) (M.Conv_bind (spec_IsValue_ok x) ?_)
    refine M.Conv_bind (x := !(valB x && !(f && x == (-1000000000000000)))) (M.Conv_ite (fun h => ?_) (fun h => ?_)) ?_
    · simp at h; simp [h]; exact M.Conv_ret _
    · simp at h
      refine M.Conv_bind (x := (f && x == (-1000000000000000))) (M.Conv_ite (fun h => ?_) (fun h => ?_)) (by simp [h]; exact M.Conv_ret _)
      · simp [h]; exact M.Conv_bind (M.Conv_get (by omega) (by simpa using hx)) (M.Conv_ret _)
      · simp [h]; exact M.Conv_ret _
    · cases (valB x && !(f && x == (-1000000000000000))) <;> exact M.Conv_ret _
  · cases (l.all fun x => valB x && !(f && x == (-1000000000000000))) <;> exact M.Conv_ret _
theorem impl_within_ok (x lo hi : Int) : M.Conv (impl_within x lo hi) (decide (lo ≤ x) && decide (x ≤ hi)) := M.Conv_ret _
theorem impl_isFinite_ok (x : Int) : M.Conv (impl_isFinite x) (finB x) := M.Conv_bind (impl_within_ok _ _ _) (M.Conv_ret _)
theorem impl_IsValue_ok (x : Int) : M.Conv (impl_IsValue x) (valB x) := by
  unfold impl_IsValue
  refine M.Conv_bind (M.Conv_ite (r := valB x) (fun h => ?_) (fun h => ?_)) (M.Conv_ret _)
  · simp only [valB, h, Bool.true_or]; exact M.Conv_ret _
  · simp only [valB, h, Bool.false_or]; exact M.Conv_bind (impl_isFinite_ok x) (M.Conv_ret _)
/-- 'slices.ContainsFunc', behind 'slices.IndexFunc' -/
theorem contains_ok {α : Type} {l : List α} {f : Int → Unit → M (Unit ⊕ (Unit ⊕ Int))} (p : α → Bool) (hl : l.length ≤ 9223372036854775807) (H : ∀ (i : Nat) x, l[i]? = some x → M.Conv (f i ()) (bif p x then .inr (.inr (i : Int)) else .inl ())) :
    M.Conv (M.bind (M.bind (M.forI 0 (l.length : Int) (fun s => .inl s) f ()) (fun x1 => M.cont x1 (fun _ => M.ret (-1)) (fun r => M.ret r))) (fun x1 => M.ret (decide (0 ≤ x1)))) (l.any p) := by
  rw [← M.findIdx_any]
  refine M.Conv_bind (M.Conv_bind (M.Conv_find p hl H) ?_) (M.Conv_ret _)
  cases l.findIdx? p <;> exact M.Conv_ret _
theorem any_not {α : Type} {l : List α} {p : α → Bool} : (!l.any fun x => !p x) = l.all p := by
  induction l with
  | nil => rfl
  | cons x xs ih => simp only [List.any_cons, List.all_cons, Bool.not_or, Bool.not_not, ih]
theorem impl_areValues_ok {l : List Int} (hl : l.length ≤ 9223372036854775807) : M.Conv (impl_areValues l) (l.all valB) := by
  unfold impl_areValues slices_ContainsFunc_int_F_impl_areValues_1 slices_IndexFunc_int_F_impl_areValues_1
  refine M.Conv_bind (contains_ok (fun x => !valB x) hl fun i x hx => ?_) ((M.Conv_ret _).of any_not)
  refine M.Conv_bind (M.Conv_get (by omega) (by simpa using hx)) ?_
  refine M.Conv_bind (x := !valB x) (M.Conv_bind (impl_IsValue_ok x) (M.Conv_ret _)) ?_
  cases valB x <;> exact M.Conv_ret _
theorem mx_eq (a b : Int) : mx a b = max a b := by unfold mx; split <;> omega
/-- a polynomial: up to twelve values, not all of them Bottom -/
def polyB (c : List Int) : Bool := decide (c.length ≤ 12) && c.all valB && c.any (· != (-1000000000000000))
theorem spec_IsPolynomial_ok {c : List Int} (hl : c.length ≤ 9223372036854775807) : M.Conv (spec_IsPolynomial c) (polyB c) := by
  unfold spec_IsPolynomial polyB
  refine M.Conv_bind (x := !(decide (c.length ≤ 12) && c.all valB)) (M.Conv_ite (fun h => ?_) (fun h => ?_)) ?_
  · have h := of_decide_eq_true h
    rw [decide_eq_false (by omega)]; exact M.Conv_ret _
  · have h := of_decide_eq_false h
    rw [decide_eq_true (by omega)]
    refine M.Conv_bind (spec_l01All_ok false hl) ((M.Conv_ret _).of ?_)
    simp
  · cases (decide (c.length ≤ 12) && c.all valB)
    · exact M.Conv_ret _
    · refine M.Conv_bind (M.Conv_all (fun x => x == (-1000000000000000)) true hl fun i x hx => ?_) ?_
      · refine M.Conv_bind (M.Conv_get (by omega) (by simpa using hx)) ?_
        simp only [bne]
        cases (x == (-1000000000000000)) <;> exact M.Conv_ret _
      · have : (c.all fun x => x == (-1000000000000000)) = !c.any (· != (-1000000000000000)) := by rw [← any_not]; rfl
        rw [this]
        cases c.any (· != (-1000000000000000)) <;> exact M.Conv_ret _
def smI (l : List Int) : Prop := l.length ≤ 1099511627776
theorem eqI_refl {a : List Int} (h : smI a) : M.Conv (laws_eqInt64S a a) true := (eqInt64S_ok (by unfold smI at h; omega)).of (by simp)
/-- marks: element i becomes e (k + w * i) -/
theorem Conv_mark {α : Type} {l : List α} {f : Int → List α × Int → M ((List α × Int) ⊕ (List α × Int))} (w : Int) (e : Int → α) (k : Int) (hl : l.length ≤ 9223372036854775807)
    (H : ∀ (i : Nat) (s : List α), i < l.length → s.length = l.length → M.Conv (f i (s, k + w * i)) (.inl (s.set i (e (k + w * i)), k + w * (i + 1)))) :
    M.Conv (M.forI 0 (l.length : Int) (fun s => s) f (l, k)) ((List.range l.length).map (fun (i : Nat) => e (k + w * i)), k + w * l.length) := by
  refine (M.Conv_forI (l := l) (fun i _ s => .inl (s.1.set i (e (k + w * i)), k + w * (i + 1))) (fun i s => s.1.length = l.length ∧ s.2 = k + w * i) hl ⟨rfl, by simp⟩ fun i x s hx hI => ?_).of ?_
  · obtain ⟨s, q⟩ := s
    obtain ⟨h1, h2⟩ := hI
    simp only at h1 h2
    subst h2
    refine ⟨H i s (List.getElem?_eq_some_iff.1 hx).1 h1, fun s' es => ?_⟩
    cases es
    exact ⟨by simpa using h1, by simp⟩
  · have key : ∀ (xs : List α) (i : Nat) (d : List α), d.length = i → M.run (ρ := List α × Int) (fun i _ s => .inl (s.1.set i (e (k + w * i)), k + w * ((i : Int) + 1))) (fun s => s) i xs (d ++ xs, k + w * i) = (d ++ (List.range xs.length).map (fun (j : Nat) => e (k + w * (i + j : Nat))), k + w * (i + xs.length : Nat)) := by
      intro xs
      induction xs with
      | nil => intro i d hd; simp [M.run]
      | cons x xs ih =>
        intro i d hd
        subst hd
        simp only [M.run]
        have := ih (d.length + 1) (d ++ [e (k + w * d.length)]) (by simp)
        rw [show (d ++ x :: xs).set d.length (e (k + w * d.length)) = d ++ [e (k + w * d.length)] ++ xs by simp]
        rw [show ((d.length : Int) + 1) = ((d.length + 1 : Nat) : Int) by omega, this]
        simp only [List.length_cons, List.range_succ_eq_map, List.map_cons, List.map_map, List.append_assoc, List.singleton_append, Prod.mk.injEq, List.append_cancel_left_eq, List.cons.injEq]
        refine ⟨⟨by simp, List.map_congr_left fun j _ => ?_⟩, by congr 2; omega⟩
        simp only [Function.comp]
        congr 3; omega
    have := key l 0 [] rfl
    simpa using this
theorem Conv_held {α : Type} {l : List α} {f : Int → Int → M (Int ⊕ (Int ⊕ Int))} (w k : Int) (hl : l.length ≤ 9223372036854775807) (H : ∀ (i : Nat) x, l[i]? = some x → M.Conv (f i (k + w * i)) (.inl (k + w * (i + 1)))) :
    M.Conv (M.forI 0 (l.length : Int) (fun s => .inl s) f k) (.inl (k + w * l.length)) := by
  refine (M.Conv_forI (l := l) (fun i _ _ => .inl (k + w * (i + 1))) (fun i s => s = k + w * i) hl (by simp) fun i x s hx hI => ?_).of ?_
  · subst hI
    exact ⟨H i x hx, fun s' es => by cases es; simp⟩
  · have key : ∀ (xs : List α) (i : Nat), M.run (σ := Int) (ρ := Int ⊕ Int) (fun i _ _ => .inl (k + w * ((i : Int) + 1))) (fun s => .inl s) i xs (k + w * i) = .inl (k + w * (i + xs.length : Nat)) := by
      intro xs
      induction xs with
      | nil => intro i; simp [M.run]
      | cons x xs ih =>
        intro i
        simp only [M.run, List.length_cons]
        rw [show ((i : Int) + 1) = ((i + 1 : Nat) : Int) by omega, ih (i + 1)]
        congr 3; omega
    have := key l 0
    simpa using this
theorem markI_ok {a : List Int} (h : smI a) (k : Int) (h0 : 0 ≤ k) (hk : k ≤ 2305843009213693952) :
    ∃ (k' : Int) (a' : List Int), M.Conv (laws_markInt64S a k) (k', a') ∧ k ≤ k' ∧ k' ≤ k + 1099511627776 ∧ a'.length = a.length ∧ M.Conv (laws_heldInt64S a' k) k' := by
  unfold smI at h
  refine ⟨k + 1 * a.length, (List.range a.length).map (fun (i : Nat) => k + 1 * (i : Int)), ?_, by omega, by omega, by simp, ?_⟩
  · unfold laws_markInt64S
    refine M.Conv_bind (Conv_mark 1 (fun x => x) k (by omega) fun i s hi hs => ?_) (M.Conv_ret _)
    refine M.Conv_bind (M.Conv_get (x := s[i]) (by omega) (by simp [show i < s.length by omega])) (M.Conv_bind (M.Conv_upd (show i < s.length by omega)) ((M.Conv_ret _).of ?_))
    rw [w64_eq _ (by omega)]
    congr 2; omega
  · unfold laws_heldInt64S
    have hl : ((List.range a.length).map fun i : Nat => k + 1 * (i : Int)).length = a.length := by simp
    refine M.Conv_bind (Conv_held 1 k (by rw [hl]; omega) fun i x hx => ?_) ((M.Conv_ret _).of (by rw [hl]))
    have hi := (List.getElem?_eq_some_iff.1 hx).1
    rw [hl] at hi
    have ex : x = k + 1 * i := by simp [hi] at hx; omega
    refine M.Conv_bind (M.Conv_get (by omega) (by simpa using hx)) (M.Conv_ite (fun q => by simp [ex] at q) (fun _ => (M.Conv_ret _).of ?_))
    rw [w64_eq _ (by omega)]
    congr 1; omega

theorem finB_bd {x : Int} (h : finB x = true) : -1000000 ≤ x ∧ x ≤ 1000000 := by simpa [finB] using h
theorem val_ne {x : Int} (h : valB x = true) (hn : (x == (-1000000000000000)) = false) : finB x = true := by simpa [valB, hn] using h
/-- two programs, one answer -/
def Two {α : Type} (m m' : M α) (Post : α → Prop) : Prop := ∃ r, M.Conv m r ∧ M.Conv m' r ∧ Post r
theorem Two.mk {α : Type} {m m' : M α} {Post : α → Prop} {r : α} (h : M.Conv m r) (h' : M.Conv m' r) (p : Post r) : Two m m' Post := ⟨r, h, h', p⟩
theorem Two.ret {α : Type} {Post : α → Prop} (r : α) (p : Post r) : Two (M.ret r) (M.ret r) Post := ⟨r, M.Conv_ret _, M.Conv_ret _, p⟩
theorem Two.bind {α β : Type} {m m' : M α} {f f' : α → M β} {P : α → Prop} {Q : β → Prop} (h : Two m m' P) (g : ∀ x, P x → Two (f x) (f' x) Q) : Two (M.bind m f) (M.bind m' f') Q := by
  obtain ⟨x, h1, h2, p⟩ := h
  obtain ⟨r, g1, g2, q⟩ := g x p
  exact ⟨r, M.Conv_bind h1 g1, M.Conv_bind h2 g2, q⟩
theorem Two.bindC {α α' β : Type} {m : M α} {m' : M α'} {f : α → M β} {f' : α' → M β} {Q : β → Prop} {x : α} {x' : α'} (h : M.Conv m x) (h' : M.Conv m' x') (g : Two (f x) (f' x') Q) : Two (M.bind m f) (M.bind m' f') Q := by
  obtain ⟨r, g1, g2, q⟩ := g
  exact ⟨r, M.Conv_bind h g1, M.Conv_bind h' g2, q⟩
theorem Two.left {α β : Type} {m : M α} {m' : M β} {f : α → M β} {Q : β → Prop} {x : α} (h : M.Conv m x) (g : Two (f x) m' Q) : Two (M.bind m f) m' Q := by
  obtain ⟨r, g1, g2, q⟩ := g
  exact ⟨r, M.Conv_bind h g1, g2, q⟩
theorem Two.right {α β : Type} {m : M α} {m' : M β} {f : α → M β} {Q : β → Prop} {x : α} (h : M.Conv m x) (g : Two m' (f x) Q) : Two m' (M.bind m f) Q := by
  obtain ⟨r, g1, g2, q⟩ := g
  exact ⟨r, g1, M.Conv_bind h g2, q⟩
theorem Two.ite {α : Type} {b : Bool} {x y x' y' : M α} {Q : α → Prop} (h1 : b = true → Two x x' Q) (h2 : b = false → Two y y' Q) : Two (M.ite b x y) (M.ite b x' y') Q := by
  cases b
  · exact h2 rfl
  · exact h1 rfl
theorem Two.iteL {α : Type} {b : Bool} {x y m' : M α} {Q : α → Prop} (h1 : b = true → Two x m' Q) (h2 : b = false → Two y m' Q) : Two (M.ite b x y) m' Q := by
  cases b
  · exact h2 rfl
  · exact h1 rfl
theorem Two.iteR {α : Type} {b : Bool} {x y m' : M α} {Q : α → Prop} (h1 : b = true → Two m' x Q) (h2 : b = false → Two m' y Q) : Two m' (M.ite b x y) Q := by
  cases b
  · exact h2 rfl
  · exact h1 rfl
theorem two_forN {σ ρ : Type} {hi : Int} {fin : σ → ρ} {f f' : Int → σ → M (σ ⊕ ρ)} {Post : ρ → Prop} (I : Int → σ → Prop) (lo : Int)
    (round : ∀ i s, lo ≤ i → i < hi → I i s → Two (f i s) (f' i s) fun y => (∃ s', y = .inl s' ∧ I (i + 1) s') ∨ (∃ r, y = .inr r ∧ Post r)) :
    ∀ (d : Nat) (i : Int) (s : σ), (hi - i).toNat = d → lo ≤ i → (i ≤ hi ∨ i = lo) → I i s → (∀ i s, (i = hi ∨ i = lo ∧ hi ≤ lo) → I i s → Post (fin s)) → ∃ r, (∃ N, ∀ n, N ≤ n → M.forN hi fin f n d i s = some r) ∧ (∃ N, ∀ n, N ≤ n → M.forN hi fin f' n d i s = some r) ∧ Post r
  | 0, i, s, hd, h1, h2, hI, fi => by
    have hge : ¬ i < hi := by omega
    exact ⟨fin s, ⟨0, fun n _ => by simp [M.forN, hge]⟩, ⟨0, fun n _ => by simp [M.forN, hge]⟩, fi i s (by omega) hI⟩
  | d + 1, i, s, hd, h1, h2, hI, fi => by
    have hlt : i < hi := by omega
    obtain ⟨y, ⟨N, hy⟩, ⟨N', hy'⟩, hc⟩ := round i s h1 hlt hI
    rcases hc with ⟨s', rfl, hI'⟩ | ⟨r, rfl, hp⟩
    · obtain ⟨r, ⟨N1, h3⟩, ⟨N2, h4⟩, hp⟩ := two_forN (fin := fin) I lo round d (i + 1) s' (by omega) (by omega) (by omega) hI' fi
      exact ⟨r, ⟨max N N1, fun n hn => by simp [M.forN, hlt, hy n (by omega), h3 n (by omega)]⟩, ⟨max N' N2, fun n hn => by simp [M.forN, hlt, hy' n (by omega), h4 n (by omega)]⟩, hp⟩
    · exact ⟨r, ⟨N, fun n hn => by simp [M.forN, hlt, hy n hn]⟩, ⟨N', fun n hn => by simp [M.forN, hlt, hy' n hn]⟩, hp⟩
theorem Two.for {σ ρ : Type} {lo hi : Int} {fin : σ → ρ} {f f' : Int → σ → M (σ ⊕ ρ)} {s : σ} {Post : ρ → Prop} (I : Int → σ → Prop) (hlo : -9223372036854775808 ≤ lo) (hhi : hi ≤ 9223372036854775807) (h0 : I lo s)
    (round : ∀ i s, lo ≤ i → i < hi → I i s → Two (f i s) (f' i s) fun y => (∃ s', y = .inl s' ∧ I (i + 1) s') ∨ (∃ r, y = .inr r ∧ Post r)) (done : ∀ i s, (i = hi ∨ i = lo ∧ hi ≤ lo) → I i s → Post (fin s)) :
    Two (M.forI lo hi fin f s) (M.forI lo hi fin f' s) Post := by
  obtain ⟨r, ⟨N, h1⟩, ⟨N', h2⟩, hp⟩ := two_forN (fin := fin) I lo round _ lo s rfl (Int.le_refl _) (.inr rfl) h0 done
  exact ⟨r, ⟨N, fun n hn => by simp [M.forI, hlo, hhi, h1 n hn]⟩, ⟨N', fun n hn => by simp [M.forI, hlo, hhi, h2 n hn]⟩, hp⟩
def timesI (a b : Int) : Int := bif (a == (-1000000000000000)) || (b == (-1000000000000000)) then (-1000000000000000) else w64 (a + b)
theorem spec_l01Times_ok (a b : Int) : M.Conv (spec_l01Times a b) (timesI a b) := M.Conv_ite2 (fun _ => M.Conv_ret _) (fun _ => M.Conv_ret _)
/-- a vector: one to ten values -/
def vecB (x : List Int) : Bool := decide (1 ≤ x.length) && decide (x.length ≤ 10) && x.all valB
theorem spec_l02Vector_ok {x : List Int} (hl : x.length ≤ 9223372036854775807) : M.Conv (spec_l02Vector x) (vecB x) := by
  unfold spec_l02Vector
  refine M.Conv_bind (spec_l01In_ok _ _ _) (M.Conv_bind (x := vecB x) (M.Conv_ite (fun h => ?_) (fun h => ?_)) (M.Conv_ret _))
  · refine M.Conv_bind (spec_l01All_ok false hl) ((M.Conv_ret _).of ?_)
    simp at h
    simp [vecB, show 1 ≤ x.length by omega, show x.length ≤ 10 by omega]
  · refine (M.Conv_ret _).of ?_
    simp only [vecB]
    rw [show (decide (1 ≤ x.length) && decide (x.length ≤ 10)) = false by rw [← h]; congr 1 <;> simp <;> omega]; rfl
theorem impl_checkedVector_ok {x : List Int} (hl : x.length ≤ 9223372036854775807) : M.Conv (impl_checkedVector x) (bif x.all valB then (x, 0) else ([], 3)) := by
  unfold impl_checkedVector
  refine M.Conv_bind (impl_areValues_ok hl) (M.Conv_ite (fun h => ?_) (fun h => ?_))
  · simp only [Bool.not_eq_true'] at h; rw [h]; exact M.Conv_ret _
  · simp only [Bool.not_eq_false'] at h; rw [h]; exact M.Conv_ret _
def smII (a : List (List Int)) : Prop := a.length ≤ 1048576 ∧ ∀ r ∈ a, r.length ≤ 1048576
theorem toII_ok {a : List (List Int)} (h : smII a) : M.Conv (laws_toInt64SS a) a := by
  unfold laws_toInt64SS
  refine M.Conv_bind (M.Conv_make (by have := h.1; omega) (by have := h.1; omega)) ?_
  refine M.Conv_bind (x := a) (((M.Conv_fill (l := a) (f := _) (fun _ x => x) [] (by have := h.1; omega) fun i x s hx hs => ?_)).of ?_) (M.Conv_ret _)
  · have hi := (List.getElem?_eq_some_iff.1 hx).1
    have hr := h.2 x (List.mem_of_getElem? hx)
    refine M.Conv_bind (M.Conv_get (by omega) (by simpa using hx)) (M.Conv_bind (toInt64S_ok (by omega)) ?_)
    refine M.Conv_bind (M.Conv_get (x := s[i]) (by omega) (by simp [show i < s.length by omega])) ?_
    exact M.Conv_bind (M.Conv_upd (by omega)) (M.Conv_ret _)
  · exact M.zipIdx_map_fst.trans (List.map_id' _)
theorem eqII_refl {a : List (List Int)} (h : smII a) : M.Conv (laws_eqInt64SS a a) true := by
  unfold laws_eqInt64SS
  refine M.Conv_ite (fun q => by simp at q) (fun _ => M.Conv_bind (M.Conv_all (fun _ => true) false (by have := h.1; omega) fun i x hx => ?_) ?_)
  case refine_2 => rw [show (a.all fun _ => true) = true by simp]; exact M.Conv_ret _
  have hg : M.Conv (M.idx a i) x := M.Conv_get (by omega) (by simpa using hx)
  have hr := h.2 x (List.mem_of_getElem? hx)
  exact M.Conv_bind hg (M.Conv_bind hg (M.Conv_bind (eqI_refl (by unfold smI; omega)) (M.Conv_ite (fun q => by simp at q) (fun _ => M.Conv_ret _))))
/-- sizes: what is left after the rows, never more than at first -/
theorem szII_ok {a : List (List Int)} (h : fitL (fitL inI64) a) : ∃ z, M.Conv (laws_szInt64SS a 1048576) z ∧ (decide (z < 0) = false → smII a) := by
  have hl := h.1
  unfold laws_szInt64SS
  have e : w64 (1048576 - (a.length : Int)) = 1048576 - a.length := w64_eq _ (by omega)
  rw [e]
  by_cases h1 : (1048576 : Int) - a.length < 0
  · exact ⟨-1, M.Conv_ite (fun _ => M.Conv_ret _) (fun q => by have := of_decide_eq_false q; omega), fun q => by simp at q⟩
  · have key : ∀ (xs : List (List Int)) (i : Nat) (s : Int), 0 ≤ s → s ≤ 1048576 → ∃ y, M.run (σ := Int) (ρ := Int ⊕ Int) (fun _ r s => bif decide (s - r.length < 0) then .inr (.inr (-1)) else .inl (s - r.length)) (fun s => .inl s) i xs s = y ∧ ((∃ z, y = .inl z ∧ 0 ≤ z ∧ ∀ r ∈ xs, r.length ≤ 1048576) ∨ y = .inr (-1)) := by
      intro xs
      induction xs with
      | nil => exact fun i s h0 _ => ⟨_, rfl, .inl ⟨s, rfl, h0, by simp⟩⟩
      | cons r xs ih =>
        intro i s h0 h2
        simp only [M.run]
        by_cases hr : s - r.length < 0
        · rw [decide_eq_true hr]; exact ⟨_, rfl, .inr rfl⟩
        · rw [decide_eq_false hr]
          obtain ⟨y, hy, hc⟩ := ih (i + 1) (s - r.length) (by omega) (by omega)
          refine ⟨y, hy, hc.imp (fun ⟨z, a1, a2, a3⟩ => ⟨z, a1, a2, fun q hq => ?_⟩) id⟩
          rcases List.mem_cons.1 hq with rfl | hq
          · omega
          · exact a3 q hq
    obtain ⟨y, hy, hc⟩ := key a 0 (1048576 - a.length) (by omega) (by omega)
    have lp := (M.Conv_forI (l := a) (f := fun i1 (s1 : Int) => M.bind (M.idx a i1) (fun x2 => M.bind (laws_szInt64S x2 s1) (fun x3 => M.ite (decide (x3 < 0)) (M.ret (.inr (.inr (-1)))) (M.ret (.inl x3))))) (fin := fun s => .inl s) (s := 1048576 - (a.length : Int)) (ρ := Int ⊕ Int) (fun _ r s => bif decide (s - r.length < 0) then .inr (.inr (-1)) else .inl (s - r.length)) (fun _ s => 0 ≤ s ∧ s ≤ 1048576) (by omega) ⟨by omega, by omega⟩ fun i r s hr hs => by
      have hrl := (h.2 r (List.mem_of_getElem? hr)).1
      have e2 : w64 (s - (r.length : Int)) = s - r.length := w64_eq _ (by omega)
      constructor
      · refine M.Conv_bind (M.Conv_get (by omega) (by simpa using hr)) ?_
        unfold laws_szInt64S
        rw [e2]
        by_cases hn : s - (r.length : Int) < 0
        · rw [decide_eq_true hn]
          exact M.Conv_bind (x := -1) (M.Conv_ret _) (M.Conv_ret _)
        · rw [decide_eq_false hn]
          exact M.Conv_bind (x := s - (r.length : Int)) (M.Conv_ret _) (M.Conv_ite (fun q => absurd (of_decide_eq_true q) hn) (fun _ => M.Conv_ret _))
      · intro s' es
        by_cases hn : s - (r.length : Int) < 0
        · rw [decide_eq_true hn] at es; cases es
        · rw [decide_eq_false hn] at es; cases es; omega).of hy
    rcases hc with ⟨z, rfl, hz, hm⟩ | rfl
    · exact ⟨z, M.Conv_ite (fun q => absurd (of_decide_eq_true q) h1) (fun _ => M.Conv_bind lp (M.Conv_ret _)), fun _ => ⟨by omega, hm⟩⟩
    · exact ⟨-1, M.Conv_ite (fun q => absurd (of_decide_eq_true q) h1) (fun _ => M.Conv_bind lp (M.Conv_ret _)), fun q => by simp at q⟩
theorem idx_mid {α : Type} {pre suf : List α} {x : α} {n i : Nat} (h : pre.length = i) : M.idx (pre ++ x :: suf) (i : Int) n = some x := by subst h; simp [M.idx]
theorem set_mid {α : Type} {pre suf : List α} {x y : α} {i : Nat} (h : pre.length = i) : (pre ++ x :: suf).set (i : Int).toNat y = pre ++ [y] ++ suf := by subst h; simp
theorem markII_ok {a : List (List Int)} (h : smII a) (k : Int) (h0 : 0 ≤ k) (hk : k ≤ 1152921504606846977) :
    ∃ (k' : Int) (a' : List (List Int)), M.Conv (laws_markInt64SS a k) (k', a') ∧ k ≤ k' ∧ k' ≤ k + 1152921504606846976 ∧ a'.length = a.length ∧ M.Conv (laws_heldInt64SS a' k) k' := by
  -- row by row
  have key : ∀ (d : Nat) (i : Nat) (pre : List (List Int)) (q : Int), i + d = a.length → pre.length = i → k ≤ q → q ≤ k + 1099511627776 * i →
      ∃ (q' : Int) (suf : List (List Int)), suf.length = d ∧ q ≤ q' ∧ q' ≤ k + 1099511627776 * a.length ∧
        (∃ N, ∀ n, N ≤ n → M.forN (a.length : Int) (fun s => s) (fun i1 => (fun (s1 : (List (List Int)) × Int) => M.bind (M.idx s1.1 i1) (fun x2 => M.bind (laws_markInt64S x2 s1.2) (fun x3 => M.ret (.inl ((s1.1.set i1.toNat x3.2), x3.1)))))) n d i (pre ++ a.drop i, q) = some (pre ++ suf, q')) ∧
        (∀ pre2 : List (List Int), pre2.length = i → ∃ N, ∀ n, N ≤ n → M.forN (a.length : Int) (fun s => .inl s) (fun i1 => (fun (s1 : Int) => M.bind (M.idx (pre2 ++ suf) i1) (fun x2 => M.bind (laws_heldInt64S x2 s1) (fun x3 => M.ite (decide (x3 < 0)) (M.ret (.inr (.inr (-1)))) (M.ret (.inl x3)))))) n d i q = some (.inl q' : Int ⊕ Int)) := by
    intro d
    induction d with
    | zero =>
      intro i pre q hi hp h1 h2
      obtain rfl : i = a.length := by omega
      exact ⟨q, [], rfl, Int.le_refl _, h2, ⟨0, fun n _ => by simp [M.forN]⟩, fun pre2 _ => ⟨0, fun n _ => by simp [M.forN]⟩⟩
    | succ d ih =>
      intro i pre q hi hp h1 h2
      have hlt : i < a.length := by omega
      have hlt' : (i : Int) < a.length := by omega
      obtain ⟨r, hdrop, hmem⟩ : ∃ r, a.drop i = r :: a.drop (i + 1) ∧ r ∈ a := ⟨a[i], List.drop_eq_getElem_cons hlt, List.getElem_mem hlt⟩
      have hr := h.2 r hmem
      have hal := h.1
      obtain ⟨q1, r1, ⟨N1, m1⟩, le1, ge1, len1, ⟨N2, he1⟩⟩ := markI_ok (a := r) (by unfold smI; omega) q (by omega) (by omega)
      obtain ⟨q', suf, hs, le2, ge2, ⟨N3, g3⟩, g4⟩ := ih (i + 1) (pre ++ [r1]) q1 (by omega) (by simp [hp]) (by omega) (by omega)
      refine ⟨q', r1 :: suf, by simp [hs], by omega, ge2, ⟨max N1 N3, fun n hn => ?_⟩, fun pre2 hp2 => ?_⟩
      · have hidx : M.idx (pre ++ a.drop i) (i : Int) n = some r := by rw [hdrop]; exact idx_mid hp
        have hset : (pre ++ a.drop i).set (i : Int).toNat r1 = pre ++ [r1] ++ a.drop (i + 1) := by rw [hdrop]; exact set_mid hp
        simp only [M.forN, hlt', decide_true, cond_true, M.bind, hidx, m1 n (by omega), M.ret, hset]
        have := g3 n (by omega)
        simpa [M.bind, M.ret] using this
      · obtain ⟨N4, g5⟩ := g4 (pre2 ++ [r1]) (by simp [hp2])
        refine ⟨max N2 N4, fun n hn => ?_⟩
        have hidx : M.idx (pre2 ++ r1 :: suf) (i : Int) n = some r1 := idx_mid hp2
        have hq : ¬ q1 < 0 := by omega
        simp only [M.forN, hlt', decide_true, cond_true, M.bind, hidx, he1 n (by omega), M.ite, hq, decide_false, cond_false, M.ret]
        have := g5 n (by omega)
        simpa [M.bind, M.ret, M.ite] using this
  obtain ⟨q', suf, hs, le, ge, ⟨N, g1⟩, g2⟩ := key a.length 0 [] k (by simp) rfl (Int.le_refl _) (by simp)
  obtain ⟨N', g3⟩ := g2 [] rfl
  have hal := h.1
  refine ⟨q', suf, ?_, le, by omega, hs, ?_⟩
  · unfold laws_markInt64SS
    refine M.Conv_bind (x := (suf, q')) ⟨N, fun n hn => ?_⟩ (M.Conv_ret _)
    simp only [M.forI, show decide ((a.length : Int) ≤ 9223372036854775807) = true from decide_eq_true (by omega), show decide ((-9223372036854775808 : Int) ≤ 0) = true by decide, Bool.and_self, cond_true]
    have := g1 n hn
    simpa using this
  · unfold laws_heldInt64SS
    rw [hs]
    refine M.Conv_bind (x := (.inl q' : Int ⊕ Int)) ⟨N', fun n hn => ?_⟩ (M.Conv_ret _)
    simp only [M.forI, show decide ((a.length : Int) ≤ 9223372036854775807) = true from decide_eq_true (by omega), show decide ((-9223372036854775808 : Int) ≤ 0) = true by decide, Bool.and_self, cond_true]
    have := g3 n hn
    simpa using this
def widthN (a : List (List Int)) : Nat := (a.headD []).length
def matB (a : List (List Int)) : Bool := (decide (1 ≤ a.length) && decide (a.length ≤ 10)) && ((decide (1 ≤ widthN a) && decide (widthN a ≤ 10)) && a.all fun r => decide (r.length = widthN a) && r.all valB)
/-- a matrix of w columns -/
structure Mat (a : List (List Int)) (w : Nat) : Prop where
  rows : 1 ≤ a.length ∧ a.length ≤ 10
  cols : 1 ≤ w ∧ w ≤ 10
  row : ∀ r ∈ a, r.length = w ∧ ∀ x ∈ r, valB x = true
theorem matB_mat {a : List (List Int)} (h : matB a = true) : Mat a (widthN a) := by
  simp only [matB, Bool.and_eq_true, decide_eq_true_eq, List.all_eq_true] at h
  exact ⟨h.1, h.2.1, fun r hr => ⟨(h.2.2 r hr).1, (h.2.2 r hr).2⟩⟩
theorem Mat.head {a : List (List Int)} {w : Nat} (h : Mat a w) : ∃ r, a[0]? = some r ∧ r.length = w := by
  have := h.rows
  exact ⟨a[0], List.getElem?_eq_getElem (by omega), (h.row _ (List.getElem_mem (by omega))).1⟩
theorem spec_IsMatrix_ok {a : List (List Int)} (h : smII a) : M.Conv (spec_IsMatrix a) (matB a) := by
  unfold spec_IsMatrix
  have hl := h.1
  refine M.Conv_ite (fun q => (M.Conv_ret _).of ?_) (fun q => ?_)
  · simp only [Bool.or_eq_true, decide_eq_true_eq] at q
    have : (decide (1 ≤ a.length) && decide (a.length ≤ 10)) = false := by
      rcases q with q | q
      · rw [decide_eq_false (show ¬ 1 ≤ a.length by omega)]; rfl
      · rw [decide_eq_false (show ¬ a.length ≤ 10 by omega)]; simp
    simp [matB, this]
  · simp only [Bool.or_eq_false_iff, decide_eq_false_iff_not] at q
    obtain ⟨r0, rs, rfl⟩ := List.exists_cons_of_ne_nil (l := a) (by rintro rfl; simp at q)
    refine M.Conv_bind (M.Conv_all (fun r => vecB r && decide (r.length = r0.length)) false (by omega) fun i r hr => ?_) ?_
    · have hrl := h.2 r (List.mem_of_getElem? hr)
      have hg : M.Conv (M.idx (r0 :: rs) i) r := M.Conv_get (by omega) (by simpa using hr)
      refine M.Conv_bind hg (M.Conv_bind (spec_l02Vector_ok (by omega)) (M.Conv_bind (x := !(vecB r && decide (r.length = r0.length))) (M.Conv_ite (fun b => ?_) (fun b => ?_)) ?_))
      · simp only [Bool.not_eq_true'] at b; rw [b]; exact M.Conv_ret _
      · simp only [Bool.not_eq_false'] at b
        rw [b]
        refine M.Conv_bind hg (M.Conv_bind (M.Conv_get (x := r0) (by omega) rfl) ((M.Conv_ret _).of ?_))
        simp only [Bool.true_and, bne]
        congr 1
        rw [Bool.eq_iff_iff]; simp; omega
      · cases (vecB r && decide (r.length = r0.length)) <;> exact M.Conv_ret _
    · have e : matB (r0 :: rs) = (r0 :: rs).all fun r => vecB r && decide (r.length = r0.length) := by
        have L : matB (r0 :: rs) = true ↔ ((1 ≤ (r0 :: rs).length ∧ (r0 :: rs).length ≤ 10) ∧ ((1 ≤ r0.length ∧ r0.length ≤ 10) ∧ ∀ r ∈ r0 :: rs, r.length = r0.length ∧ r.all valB = true)) := by
          have e0 : matB (r0 :: rs) = ((decide (1 ≤ (r0 :: rs).length) && decide ((r0 :: rs).length ≤ 10)) && ((decide (1 ≤ r0.length) && decide (r0.length ≤ 10)) && (r0 :: rs).all fun r => decide (r.length = r0.length) && r.all valB)) := rfl
          rw [e0, Bool.and_eq_true, Bool.and_eq_true, Bool.and_eq_true, Bool.and_eq_true, List.all_eq_true]
          simp only [decide_eq_true_eq, Bool.and_eq_true]
        have R : ∀ r : List Int, (vecB r && decide (r.length = r0.length)) = true ↔ ((1 ≤ r.length ∧ r.length ≤ 10) ∧ r.all valB = true) ∧ r.length = r0.length := by
          intro r
          unfold vecB
          simp only [Bool.and_eq_true, decide_eq_true_eq]
        rw [Bool.eq_iff_iff, List.all_eq_true, L]
        constructor
        · rintro ⟨_, ⟨h1, h2⟩, h3⟩ r hr
          obtain ⟨e1, e2⟩ := h3 r hr
          exact (R r).2 ⟨⟨⟨by omega, by omega⟩, e2⟩, e1⟩
        · intro hh
          obtain ⟨⟨⟨e1, e2⟩, _⟩, _⟩ := (R r0).1 (hh r0 List.mem_cons_self)
          exact ⟨⟨by omega, by omega⟩, ⟨e1, e2⟩, fun r hr => ⟨((R r).1 (hh r hr)).2, ((R r).1 (hh r hr)).1.2⟩⟩
      rw [e]
      cases ((r0 :: rs).all fun r => vecB r && decide (r.length = r0.length)) <;> exact M.Conv_ret _
theorem impl_IsMatrix_ok {a : List (List Int)} (h : smII a) : M.Conv (impl_IsMatrix a) (matB a) := by
  unfold impl_IsMatrix slices_ContainsFunc_row_F_impl_IsMatrix_1 slices_IndexFunc_row_F_impl_IsMatrix_1
  have hl := h.1
  refine M.Conv_bind (impl_within_ok _ _ _) ?_
  have e0 : (decide (1 ≤ (a.length : Int)) && decide ((a.length : Int) ≤ 10)) = (decide (1 ≤ a.length) && decide (a.length ≤ 10)) := by
    rw [decide_eq_decide.2 (show (1 : Int) ≤ a.length ↔ 1 ≤ a.length by omega), decide_eq_decide.2 (show (a.length : Int) ≤ 10 ↔ a.length ≤ 10 by omega)]
  rw [e0]
  cases hb : (decide (1 ≤ a.length) && decide (a.length ≤ 10)) with
  | false => exact M.Conv_bind (x := true) (M.Conv_ret _) ((M.Conv_ret _).of (by simp [matB, hb]))
  | true =>
    simp only [Bool.and_eq_true, decide_eq_true_eq] at hb
    obtain ⟨r0, rs, rfl⟩ := List.exists_cons_of_ne_nil (l := a) (by rintro rfl; simp at hb)
    have e1 : (decide (1 ≤ (r0.length : Int)) && decide ((r0.length : Int) ≤ 10)) = (decide (1 ≤ widthN (r0 :: rs)) && decide (widthN (r0 :: rs) ≤ 10)) := by
      rw [decide_eq_decide.2 (show (1 : Int) ≤ r0.length ↔ 1 ≤ r0.length by omega), decide_eq_decide.2 (show (r0.length : Int) ≤ 10 ↔ r0.length ≤ 10 by omega)]; rfl
    refine M.Conv_bind (x := !(decide (1 ≤ widthN (r0 :: rs)) && decide (widthN (r0 :: rs) ≤ 10))) (M.Conv_ite (fun q => by simp at q) (fun _ => M.Conv_bind (M.Conv_get (x := r0) (by omega) rfl) (M.Conv_bind (impl_within_ok _ _ _) ((M.Conv_ret _).of (by rw [e1]))))) ?_
    have e2 : matB (r0 :: rs) = ((decide (1 ≤ widthN (r0 :: rs)) && decide (widthN (r0 :: rs) ≤ 10)) && (r0 :: rs).all fun r => decide (r.length = widthN (r0 :: rs)) && r.all valB) := by
      simp only [matB, decide_eq_true hb.1, decide_eq_true hb.2, Bool.true_and]
    rw [e2]
    cases (decide (1 ≤ widthN (r0 :: rs)) && decide (widthN (r0 :: rs) ≤ 10)) with
    | false => exact M.Conv_ret _
    | true =>
      refine M.Conv_ite (fun q => by simp at q) (fun _ => ?_)
      refine M.Conv_bind (contains_ok (fun r => !(decide (r.length = widthN (r0 :: rs)) && r.all valB)) (by omega) fun i r hr => ?_) ((M.Conv_ret _).of (by rw [any_not, Bool.true_and]))
      have hrl := h.2 r (List.mem_of_getElem? hr)
      refine M.Conv_bind (M.Conv_get (by omega) (by simpa using hr)) (M.Conv_bind (x := !(decide (r.length = widthN (r0 :: rs)) && r.all valB)) (M.Conv_bind (M.Conv_get (x := r0) (by omega) rfl) (M.Conv_bind (x := !(decide (r.length = widthN (r0 :: rs)) && r.all valB)) (M.Conv_ite (fun q => ?_) (fun q => ?_)) (M.Conv_ret _))) ?_)
      · have : r.length ≠ widthN (r0 :: rs) := fun e => by rw [show r.length = r0.length from e] at q; simp at q
        rw [decide_eq_false this]; exact M.Conv_ret _
      · have : r.length = widthN (r0 :: rs) := Int.ofNat.inj (show (r.length : Int) = r0.length by simpa using q)
        rw [decide_eq_true this]; exact M.Conv_bind (impl_areValues_ok (by omega)) (M.Conv_ret _)
      · cases (decide (r.length = widthN (r0 :: rs)) && r.all valB) <;> exact M.Conv_ret _

theorem val_cases {x : Int} (h : valB x = true) : x = -1000000000000000 ∨ (-1000000 ≤ x ∧ x ≤ 1000000) := by
  cases hb : (x == (-1000000000000000)) with
  | true => left; simpa using hb
  | false => right; exact finB_bd (val_ne h hb)
theorem Mat.get {a : List (List Int)} {w i : Nat} {row : List Int} (hm : Mat a w) (h : a[i]? = some row) {j : Nat} (hj : j < w) : M.Conv (M.idx row (j : Int)) ((row[j]?).getD 0) ∧ valB ((row[j]?).getD 0) = true := by
  obtain ⟨e1, e2⟩ := hm.row row (List.mem_of_getElem? h)
  rw [List.getElem?_eq_getElem (by omega)]
  exact ⟨M.Conv_get (by omega) (by simp [show j < row.length by omega]), e2 _ (List.getElem_mem _)⟩
theorem get_row {a : List (List Int)} {i : Nat} {row : List Int} (h : a[i]? = some row) : M.Conv (M.idx a (i : Int)) row := M.Conv_get (by omega) (by simpa using h)
theorem Conv_forV {σ : Type} {n : Nat} {f : Int → σ → M (σ ⊕ σ)} (val : Nat → σ) (hn : n ≤ 9223372036854775807) (h : ∀ i, i < n → M.Conv (f i (val i)) (.inl (val (i + 1)))) : M.Conv (M.forI 0 (n : Int) (fun s => s) f (val 0)) (val n) := by
  have := M.Conv_forI (l := List.range n) (f := f) (fin := fun s => s) (s := val 0) (ρ := σ) (fun i _ _ => .inl (val (i + 1))) (fun i s => s = val i) (by simpa using hn) rfl (fun i x s hx hs => by
    subst hs
    have hi := (List.getElem?_eq_some_iff.1 hx).1
    exact ⟨h i (by simpa using hi), fun s' e => by cases e; rfl⟩)
  simp only [List.length_range] at this
  refine this.of ?_
  have run : ∀ (m i : Nat), M.run (σ := σ) (ρ := σ) (fun i (_ : Nat) _ => .inl (val (i + 1))) (fun s => s) i (List.range m) (val i) = val (i + m) := by
    have g : ∀ (l : List Nat) (i : Nat), M.run (σ := σ) (ρ := σ) (fun i (_ : Nat) _ => .inl (val (i + 1))) (fun s => s) i l (val i) = val (i + l.length) := by
      intro l
      induction l with
      | nil => intro i; rfl
      | cons x xs ih => intro i; simp only [M.run, List.length_cons]; rw [ih (i + 1)]; congr 1; omega
    intro m i
    rw [g, List.length_range]
  simpa using run n 0
def sqB (a : List (List Int)) : Bool := matB a && decide (a.length = widthN a)
theorem head_of_mat {a : List (List Int)} (h : matB a = true) : ∃ r, a[0]? = some r ∧ r.length = widthN a := (matB_mat h).head
theorem spec_l02Square_ok {a : List (List Int)} (h : smII a) : M.Conv (spec_l02Square a) (sqB a) := by
  refine M.Conv_bind (spec_IsMatrix_ok h) (M.Conv_bind (x := sqB a) (M.Conv_ite (fun q => ?_) (fun q => (M.Conv_ret _).of (by simp [sqB, q]))) (M.Conv_ret _))
  obtain ⟨r, h0, hl⟩ := head_of_mat q
  refine M.Conv_bind (get_row h0) ((M.Conv_ret _).of ?_)
  rw [hl, sqB, q, Bool.true_and]
  rw [Bool.eq_iff_iff]; simp; omega
theorem impl_isSquare_ok {a : List (List Int)} (h : smII a) : M.Conv (impl_isSquare a) (sqB a) := by
  refine M.Conv_bind (impl_IsMatrix_ok h) (M.Conv_bind (x := sqB a) (M.Conv_ite (fun q => ?_) (fun q => (M.Conv_ret _).of (by simp [sqB, q]))) (M.Conv_ret _))
  obtain ⟨r, h0, hl⟩ := head_of_mat q
  refine M.Conv_bind (get_row h0) ((M.Conv_ret _).of ?_)
  rw [hl, sqB, q, Bool.true_and]
  rw [Bool.eq_iff_iff]; simp; omega
theorem sq_mat {a : List (List Int)} (h : sqB a = true) : Mat a a.length := by
  simp only [sqB, Bool.and_eq_true, decide_eq_true_eq] at h
  have := matB_mat h.1
  rwa [← h.2] at this
def ConvL {σ ρ : Type} (f : σ → M (σ ⊕ ρ)) (s : σ) (r : ρ) : Prop := ∃ N m0, ∀ n, N ≤ n → ∀ m, m0 ≤ m → M.loopN f n m s = some r
theorem ConvL.conv {σ ρ : Type} {f : σ → M (σ ⊕ ρ)} {s : σ} {r : ρ} (h : ConvL f s r) : M.Conv (M.loop f s) r := by
  obtain ⟨N, m0, h⟩ := h
  exact ⟨max N m0, fun n hn => h n (by omega) n (by omega)⟩
theorem ConvL.step {σ ρ : Type} {f : σ → M (σ ⊕ ρ)} {s s' : σ} {r : ρ} (h1 : M.Conv (f s) (.inl s')) (h : ConvL f s' r) : ConvL f s r := by
  obtain ⟨N, h1⟩ := h1
  obtain ⟨N', m0, h⟩ := h
  refine ⟨max N N', m0 + 1, fun n hn m hm => ?_⟩
  obtain ⟨m, rfl⟩ : ∃ q, m = q + 1 := ⟨m - 1, by omega⟩
  simp only [M.loopN, h1 n (by omega)]
  exact h n (by omega) m (by omega)
theorem ConvL.stop {σ ρ : Type} {f : σ → M (σ ⊕ ρ)} {s : σ} {r : ρ} (h1 : M.Conv (f s) (.inr r)) : ConvL f s r := by
  obtain ⟨N, h1⟩ := h1
  refine ⟨N, 1, fun n hn m hm => ?_⟩
  obtain ⟨m, rfl⟩ : ∃ q, m = q + 1 := ⟨m - 1, by omega⟩
  simp only [M.loopN, h1 n hn]
def bitN (s j : Nat) : Nat := s / 2 ^ j % 2
def popN (s : Nat) : Nat := (List.range 10).foldl (fun t j => t + bitN s j) 0
def chk1 (s j : Nat) : Bool :=
  (ibit .and .i64 (ishr .i64 (s : Int) (IntKind.u64.wrap (j : Int))) 1 == (bitN s j : Int)) && (ibit .and .i64 (ishr .i64 (s : Int) (j : Int)) 1 == (bitN s j : Int)) && (ishl .i64 1 (IntKind.u64.wrap (j : Int)) == ((2 ^ j : Nat) : Int)) && (ishl .i64 1 (j : Int) == ((2 ^ j : Nat) : Int)) &&
  (ibit .or .i64 (s : Int) (ishl .i64 1 (j : Int)) == (bif bitN s j == 1 then (s : Int) else ((s + 2 ^ j : Nat) : Int))) && (bif bitN s j == 1 then decide (2 ^ j ≤ s) && (popN (s - 2 ^ j) + 1 == popN s) && (bitN (s - 2 ^ j) j == 0) else bitN s j == 0) && decide (IntKind.u64.wrap (j : Int) = (j : Int))
theorem chk1_all : ((List.range 1024).all fun s => (List.range 10).all fun j => chk1 s j) = true := by decide +kernel
def chk2 (s : Nat) : Bool := (math_bits_OnesCount (IntKind.u64.wrap (s : Int)) 0 == some (popN s : Int)) && decide (popN s ≤ 10) && (decide (s = 0) || decide (1 ≤ popN s))
theorem chk2_all : ((List.range 1024).all chk2) = true := by decide +kernel
def chk3 (n s : Nat) : Bool := (popN (2 ^ n - 1 - s) + popN s == n) && (List.range n).all fun j => (bitN (2 ^ n - 1 - s) j + bitN s j == 1)
theorem chk3_all : ((List.range 11).all fun n => (List.range (2 ^ n)).all fun s => chk3 n s) = true := by decide +kernel
theorem chk4_all : ((List.range 11).all fun n => (ishl .i64 1 (IntKind.u64.wrap (n : Int)) == ((2 ^ n : Nat) : Int)) && (ishl .i64 1 (n : Int) == ((2 ^ n : Nat) : Int)) && decide (2 ^ n ≤ 1024) && decide (1 ≤ 2 ^ n) && decide (0 ≤ IntKind.u64.wrap (n : Int))) = true := by decide +kernel
structure Bit (s j : Nat) : Prop where
  andU : ibit .and .i64 (ishr .i64 (s : Int) (IntKind.u64.wrap (j : Int))) 1 = (bitN s j : Int)
  and : ibit .and .i64 (ishr .i64 (s : Int) (j : Int)) 1 = (bitN s j : Int)
  shlU : ishl .i64 1 (IntKind.u64.wrap (j : Int)) = ((2 ^ j : Nat) : Int)
  shl : ishl .i64 1 (j : Int) = ((2 ^ j : Nat) : Int)
  or : ibit .or .i64 (s : Int) (ishl .i64 1 (j : Int)) = (bif bitN s j == 1 then (s : Int) else ((s + 2 ^ j : Nat) : Int))
  one : bitN s j = 1 → 2 ^ j ≤ s ∧ popN (s - 2 ^ j) + 1 = popN s ∧ bitN (s - 2 ^ j) j = 0
  zero : bitN s j ≠ 1 → bitN s j = 0
  wrapU : IntKind.u64.wrap (j : Int) = (j : Int)
theorem bit_ok {s j : Nat} (hs : s < 1024) (hj : j < 10) : Bit s j := by
  have h := chk1_all
  rw [List.all_eq_true] at h
  have h := h s (List.mem_range.2 hs)
  rw [List.all_eq_true] at h
  have h := h j (List.mem_range.2 hj)
  simp only [chk1, Bool.and_eq_true, beq_iff_eq, decide_eq_true_eq] at h
  obtain ⟨⟨⟨⟨⟨⟨h1, h2⟩, h3⟩, h4⟩, h5⟩, h6⟩, h7⟩ := h
  refine ⟨h1, h2, h3, h4, h5, fun e => ?_, fun e => ?_, h7⟩
  · rw [e] at h6
    simp only [beq_self_eq_true, cond_true, Bool.and_eq_true, decide_eq_true_eq, beq_iff_eq] at h6
    exact ⟨h6.1.1, h6.1.2, h6.2⟩
  · rw [show (bitN s j == 1) = false by simpa using e] at h6
    simpa using h6
theorem pop_ok {s : Nat} (hs : s < 1024) : M.Conv (math_bits_OnesCount (IntKind.u64.wrap (s : Int))) (popN s : Int) ∧ popN s ≤ 10 ∧ (s = 0 ∨ 1 ≤ popN s) := by
  have h := chk2_all
  rw [List.all_eq_true] at h
  have h := h s (List.mem_range.2 hs)
  simp only [chk2, Bool.and_eq_true, beq_iff_eq, decide_eq_true_eq, Bool.or_eq_true] at h
  exact ⟨⟨0, fun n _ => h.1.1⟩, h.1.2, h.2⟩
theorem compl_ok {n s : Nat} (hn : n ≤ 10) (hs : s < 2 ^ n) : popN (2 ^ n - 1 - s) + popN s = n ∧ ∀ j, j < n → bitN (2 ^ n - 1 - s) j + bitN s j = 1 := by
  have h := chk3_all
  rw [List.all_eq_true] at h
  have h := h n (List.mem_range.2 (by omega))
  rw [List.all_eq_true] at h
  have h := h s (List.mem_range.2 hs)
  simp only [chk3, Bool.and_eq_true, beq_iff_eq, List.all_eq_true, List.mem_range] at h
  exact h
theorem pow_ok {n : Nat} (hn : n ≤ 10) : ishl .i64 1 (IntKind.u64.wrap (n : Int)) = ((2 ^ n : Nat) : Int) ∧ ishl .i64 1 (n : Int) = ((2 ^ n : Nat) : Int) ∧ 2 ^ n ≤ 1024 ∧ 1 ≤ 2 ^ n ∧ 0 ≤ IntKind.u64.wrap (n : Int) := by
  have h := chk4_all
  rw [List.all_eq_true] at h
  have h := h n (List.mem_range.2 (by omega))
  simp only [Bool.and_eq_true, beq_iff_eq, decide_eq_true_eq] at h
  exact ⟨h.1.1.1.1, h.1.1.1.2, h.1.1.2, h.1.2, h.2⟩
def entA (a : List (List Int)) (i j : Nat) : Int := (((a[i]?).getD [])[j]?).getD 0
def stepP (a : List (List Int)) (tab : List (Int × Int)) (s : Nat) (st : Int × Int) (j : Nat) : Int × Int :=
  bif bitN s j == 1 then
    bif (entA a (a.length - popN s) j == (-1000000000000000)) || (((tab[s - 2 ^ j]?).getD (0, 0)).1 == (-1000000000000000)) then st
    else bif decide (st.1 < entA a (a.length - popN s) j + ((tab[s - 2 ^ j]?).getD (0, 0)).1) then (entA a (a.length - popN s) j + ((tab[s - 2 ^ j]?).getD (0, 0)).1, ((tab[s - 2 ^ j]?).getD (0, 0)).2)
    else bif (entA a (a.length - popN s) j + ((tab[s - 2 ^ j]?).getD (0, 0)).1) == st.1 then (st.1, st.2 + ((tab[s - 2 ^ j]?).getD (0, 0)).2) else st
  else st
def cellP (a : List (List Int)) (tab : List (Int × Int)) (s m : Nat) : Int × Int := (List.range m).foldl (stepP a tab s) (-1000000000000000, 0)
def tabP (a : List (List Int)) : Nat → List (Int × Int)
  | 0 => []
  | k + 1 => tabP a k ++ [bif k == 0 then (0, 1) else cellP a (tabP a k) k a.length]
theorem tabP_len (a : List (List Int)) : ∀ k, (tabP a k).length = k
  | 0 => rfl
  | k + 1 => by simp [tabP, tabP_len a k]
theorem tabP_get (a : List (List Int)) {k m s : Nat} (hs : s < k) (hk : k ≤ m) : (tabP a m)[s]? = (tabP a k)[s]? := by
  induction m with
  | zero => omega
  | succ m ih =>
    by_cases e : k = m + 1
    · rw [e]
    · rw [tabP, List.getElem?_append_left (by rw [tabP_len]; omega)]
      exact ih (by omega)
/-- an entry for p rows: no assignment, or a weight and a number of them -/
def EntP (p : Nat) (e : Int × Int) : Prop := e = (-1000000000000000, 0) ∨ (-(1000000 * (p : Int)) ≤ e.1 ∧ e.1 ≤ 1000000 * p ∧ 1 ≤ e.2 ∧ e.2 ≤ 10 ^ p)
def TabOK (a : List (List Int)) (k : Nat) : Prop := ∀ s e, s < k → (tabP a k)[s]? = some e → EntP (popN s) e
theorem ent_val {a : List (List Int)} {n i j : Nat} (hm : Mat a n) (hi : i < a.length) (hj : j < n) : M.Conv (M.idx a (i : Int)) a[i] ∧ M.Conv (M.idx a[i] (j : Int)) (entA a i j) ∧ valB (entA a i j) = true := by
  have hr : a[i]? = some a[i] := List.getElem?_eq_getElem hi
  obtain ⟨g1, g2⟩ := hm.get hr hj
  have e : entA a i j = (a[i][j]?).getD 0 := by simp only [entA, hr, Option.getD_some]
  rw [e]
  exact ⟨get_row hr, g1, g2⟩
/-- one step, its bounds: K = 10 ^ (p - 1) -/
theorem stepP_bd {a : List (List Int)} {s j p : Nat} {st : Int × Int} (hm : Mat a a.length) (hs : s < 2 ^ a.length) (hj : j < a.length) (h0 : s ≠ 0) (ht : TabOK a s) (hp : popN s = p + 1)
    (hst : st = (-1000000000000000, 0) ∨ (-(1000000 * ((p : Int) + 1)) ≤ st.1 ∧ st.1 ≤ 1000000 * ((p : Int) + 1) ∧ 1 ≤ st.2 ∧ st.2 ≤ j * 10 ^ p)) :
    (stepP a (tabP a s) s st j = (-1000000000000000, 0) ∨ (-(1000000 * ((p : Int) + 1)) ≤ (stepP a (tabP a s) s st j).1 ∧ (stepP a (tabP a s) s st j).1 ≤ 1000000 * ((p : Int) + 1) ∧ 1 ≤ (stepP a (tabP a s) s st j).2 ∧ (stepP a (tabP a s) s st j).2 ≤ (j + 1 : Nat) * 10 ^ p)) ∧
    (bitN s j = 1 → ∃ e, (tabP a s)[s - 2 ^ j]? = some e ∧ EntP p e ∧ a.length - popN s < a.length) := by
  have hrows := hm.rows
  obtain ⟨_, _, hN, _, _⟩ := pow_ok (n := a.length) (by omega)
  have hb := bit_ok (s := s) (j := j) (by omega) (by omega)
  have hp9 : p ≤ 9 := by have := (pop_ok (s := s) (by omega)).2.1; omega
  have hK : (0 : Int) ≤ 10 ^ p := Int.le_of_lt (Int.pow_pos (by decide))
  have hjK : (j : Int) * 10 ^ p ≤ (j + 1 : Nat) * 10 ^ p := Int.mul_le_mul_of_nonneg_right (by omega) hK
  have hjK2 : ((j + 1 : Nat) : Int) * 10 ^ p = j * 10 ^ p + 10 ^ p := by rw [Int.natCast_add, Int.add_mul]; simp
  have weak : ∀ st : Int × Int, (st = (-1000000000000000, 0) ∨ (-(1000000 * ((p : Int) + 1)) ≤ st.1 ∧ st.1 ≤ 1000000 * ((p : Int) + 1) ∧ 1 ≤ st.2 ∧ st.2 ≤ j * 10 ^ p)) → (st = (-1000000000000000, 0) ∨ (-(1000000 * ((p : Int) + 1)) ≤ st.1 ∧ st.1 ≤ 1000000 * ((p : Int) + 1) ∧ 1 ≤ st.2 ∧ st.2 ≤ (j + 1 : Nat) * 10 ^ p)) := fun st h => h.imp id fun ⟨a, b, c, d⟩ => ⟨a, b, c, by omega⟩
  by_cases hbit : bitN s j = 1
  · obtain ⟨q1, q2, q3⟩ := hb.one hbit
    have hpos : 0 < 2 ^ j := Nat.pow_pos (by decide)
    have hlt : s - 2 ^ j < s := by omega
    have hge : (tabP a s)[s - 2 ^ j]? = some ((tabP a s)[s - 2 ^ j]'(by rw [tabP_len]; exact hlt)) := List.getElem?_eq_getElem _
    generalize (tabP a s)[s - 2 ^ j]'(by rw [tabP_len]; exact hlt) = e at hge
    have he := ht _ e hlt hge
    rw [show popN (s - 2 ^ j) = p by omega] at he
    have hrow : a.length - popN s < a.length := by omega
    refine ⟨?_, fun _ => ⟨e, hge, he, hrow⟩⟩
    unfold stepP
    rw [hbit, hge]
    simp only [beq_self_eq_true, cond_true, Option.getD_some]
    have hv := val_cases (ent_val hm hrow (j := j) hj).2.2
    generalize entA a (a.length - popN s) j = v at hv
    cases hskip : ((v == (-1000000000000000)) || (e.1 == (-1000000000000000))) with
    | true => exact weak _ hst
    | false =>
      simp only [Bool.or_eq_false_iff, beq_eq_false_iff_ne, ne_eq] at hskip
      rcases he with rfl | ⟨e1, e2, e3, e4⟩
      · exact absurd rfl hskip.2
      have hv : -1000000 ≤ v ∧ v ≤ 1000000 := by omega
      simp only [cond_false]
      cases h1 : decide (st.1 < v + e.1) with
      | true => right; simp only [cond_true]; refine ⟨by omega, by omega, e3, ?_⟩; have : (0 : Int) ≤ j * 10 ^ p := Int.mul_nonneg (by omega) hK; omega
      | false =>
        simp only [cond_false]
        cases h2 : (v + e.1 == st.1) with
        | false => exact weak _ hst
        | true =>
          have h2 : v + e.1 = st.1 := by simpa using h2
          rcases hst with rfl | ⟨s1, s2, s3, s4⟩
          · exfalso; simp only at h2; omega
          · right; simp only [cond_true]; exact ⟨s1, s2, by omega, by omega⟩
  · refine ⟨?_, fun h => absurd h hbit⟩
    unfold stepP
    rw [show (bitN s j == 1) = false by simpa using hbit]
    exact weak _ hst
theorem cellP_inv {a : List (List Int)} {s p : Nat} (hm : Mat a a.length) (hs : s < 2 ^ a.length) (h0 : s ≠ 0) (ht : TabOK a s) (hp : popN s = p + 1) :
    ∀ m, m ≤ a.length → (cellP a (tabP a s) s m = (-1000000000000000, 0) ∨ (-(1000000 * ((p : Int) + 1)) ≤ (cellP a (tabP a s) s m).1 ∧ (cellP a (tabP a s) s m).1 ≤ 1000000 * ((p : Int) + 1) ∧ 1 ≤ (cellP a (tabP a s) s m).2 ∧ (cellP a (tabP a s) s m).2 ≤ m * 10 ^ p))
  | 0, _ => .inl rfl
  | m + 1, h => by
    have e : cellP a (tabP a s) s (m + 1) = stepP a (tabP a s) s (cellP a (tabP a s) s m) m := by simp [cellP, List.range_succ]
    rw [e]
    exact (stepP_bd hm hs (by omega) h0 ht hp (cellP_inv hm hs h0 ht hp m (by omega))).1
theorem tabOK {a : List (List Int)} (hm : Mat a a.length) : ∀ k, k ≤ 2 ^ a.length → TabOK a k
  | 0, _ => fun s e h => by omega
  | k + 1, hk => by
    have ih := tabOK hm k (by omega)
    have hrows := hm.rows
    obtain ⟨_, _, hN, _, _⟩ := pow_ok (n := a.length) (by omega)
    intro s e hs he
    by_cases hsk : s < k
    · rw [tabP, List.getElem?_append_left (by rw [tabP_len]; exact hsk)] at he
      exact ih s e hsk he
    · obtain rfl : s = k := by omega
      rw [tabP, List.getElem?_append_right (by rw [tabP_len]; omega), tabP_len, Nat.sub_self] at he
      simp only [List.getElem?_cons_zero, Option.some.injEq] at he
      subst he
      by_cases h0 : s = 0
      · subst h0
        rw [show popN 0 = 0 by decide]; exact .inr ⟨by simp, by simp, by simp, by simp⟩
      · rw [show (s == 0) = false by simpa using h0]
        obtain ⟨_, hp10, hp⟩ := pop_ok (s := s) (by omega)
        obtain ⟨p, hp⟩ : ∃ p, popN s = p + 1 := ⟨popN s - 1, by omega⟩
        rw [hp]
        have := cellP_inv hm (by omega) h0 ih hp a.length (Nat.le_refl _)
        rcases this with h | ⟨h1, h2, h3, h4⟩
        · exact .inl h
        · refine .inr ⟨by simp only [cond_false]; omega, by simp only [cond_false]; omega, h3, ?_⟩
          simp only [cond_false]
          have hK : (0 : Int) ≤ 10 ^ p := Int.le_of_lt (Int.pow_pos (by decide))
          have : (a.length : Int) * 10 ^ p ≤ 10 * 10 ^ p := Int.mul_le_mul_of_nonneg_right (by omega) hK
          rw [Int.pow_succ]; omega

def popTo (s m : Nat) : Nat := (List.range m).foldl (fun t j => t + bitN s j) 0
theorem popTo_succ (s m : Nat) : popTo s (m + 1) = popTo s m + bitN s m := by simp [popTo, List.range_succ]
theorem bitN_le (s j : Nat) : bitN s j ≤ 1 := by unfold bitN; omega
theorem bitN_big {s n j : Nat} (h : s < 2 ^ n) (hj : n ≤ j) : bitN s j = 0 := by
  have : 2 ^ n ≤ 2 ^ j := Nat.pow_le_pow_right (by decide) hj
  unfold bitN
  rw [Nat.div_eq_of_lt (by omega)]
theorem popTo_le (s : Nat) : ∀ m, popTo s m ≤ m
  | 0 => Nat.le_refl _
  | m + 1 => by have := popTo_le s m; have := bitN_le s m; rw [popTo_succ]; omega
theorem popTo_n {s n : Nat} (h : s < 2 ^ n) (hn : n ≤ 10) : popTo s n = popN s := by
  have : ∀ d, n + d ≤ 10 → popTo s (n + d) = popTo s n := by
    intro d
    induction d with
    | zero => intro _; rfl
    | succ d ih => intro h'; rw [← Nat.add_assoc, popTo_succ, ih (by omega), bitN_big h (by omega), Nat.add_zero]
  rw [← this (10 - n) (by omega), show n + (10 - n) = 10 by omega]; rfl
theorem ten_pow {p : Nat} (h : p ≤ 9) : (10 : Int) ^ p ≤ 1000000000 := by
  have : ∀ q : Fin 10, (10 : Int) ^ q.val ≤ 1000000000 := by decide
  exact this ⟨p, by omega⟩
theorem timesI_val {v w : Int} (hv : v = -1000000000000000 ∨ (-1000000 ≤ v ∧ v ≤ 1000000)) (hw : w = -1000000000000000 ∨ (-10000000 ≤ w ∧ w ≤ 10000000)) :
    timesI v w = (bif (v == (-1000000000000000)) || (w == (-1000000000000000)) then -1000000000000000 else v + w) ∧ ((timesI v w == (-1000000000000000)) = ((v == (-1000000000000000)) || (w == (-1000000000000000)))) := by
  unfold timesI
  cases h : (v == (-1000000000000000)) || (w == (-1000000000000000)) with
  | true => simp
  | false =>
    simp only [Bool.or_eq_false_iff, beq_eq_false_iff_ne, ne_eq] at h
    simp only [cond_false]
    have e : w64 (v + w) = v + w := w64_eq _ (by omega)
    rw [e]
    exact ⟨rfl, by simp; omega⟩
theorem EntP.weight {p : Nat} {e : Int × Int} (h : EntP p e) (hp : p ≤ 9) : e.1 = -1000000000000000 ∨ (-10000000 ≤ e.1 ∧ e.1 ≤ 10000000) := by
  rcases h with rfl | ⟨h1, h2, _⟩
  · exact .inl rfl
  · exact .inr ⟨by omega, by omega⟩
/-- the inner loop of the specification: the state after m columns -/
theorem spec_cell {a : List (List Int)} {s p m : Nat} {st : Int × Int} (hm : Mat a a.length) (hs : s < 2 ^ a.length) (h0 : s ≠ 0) (ht : TabOK a s) (hp : popN s = p + 1) (hj : m < a.length)
    (hst : st = cellP a (tabP a s) s m) :
    M.Conv (M.bind (M.bind (M.guard (decide (0 ≤ (IntKind.u64.wrap ((m : Int)))))) (fun _ => M.ite ((ibit .and .i64 (ishr .i64 (s : Int) (IntKind.u64.wrap ((m : Int)))) 1) == 0) (M.ret (st.1, st.2)) (M.bind (M.guard (decide (0 ≤ (IntKind.u64.wrap ((m : Int)))))) (fun _ => M.bind (M.idx a (w64 ((a.length : Int) - (popN s : Int)))) (fun x4 => M.bind (M.idx x4 (m : Int)) (fun x5 => M.bind (M.idx ((tabP a s).map Prod.fst) (w64 ((s : Int) - (ishl .i64 1 (IntKind.u64.wrap ((m : Int))))))) (fun x6 => M.bind (spec_l01Times x5 x6) (fun x7 => M.ite (x7 == (-1000000000000000)) (M.ret (st.1, st.2)) (M.bind (M.ite (decide (st.1 < x7)) (M.bind (M.idx ((tabP a s).map Prod.snd) (w64 ((s : Int) - (ishl .i64 1 (IntKind.u64.wrap ((m : Int))))))) (fun x8 => M.ret (x7, x8))) (M.ite (x7 == st.1) (M.bind (M.idx ((tabP a s).map Prod.snd) (w64 ((s : Int) - (ishl .i64 1 (IntKind.u64.wrap ((m : Int))))))) (fun x9 => M.ret (st.1, (w64 (st.2 + x9))))) (M.ret (st.1, st.2)))) (fun (s5 : Int × Int) => M.ret (s5.1, s5.2))))))))))) (fun (s4 : Int × Int) => M.ret (.inl (s4.1, s4.2)) : Int × Int → M ((Int × Int) ⊕ (Int × Int)))) (.inl (cellP a (tabP a s) s (m + 1))) := by
  have hrows := hm.rows
  obtain ⟨_, _, hN, _, _⟩ := pow_ok (n := a.length) (by omega)
  have hb := bit_ok (s := s) (j := m) (by omega) (by omega)
  have hp9 : p ≤ 9 := by have := (pop_ok (s := s) (by omega)).2.1; omega
  have hinv := cellP_inv hm hs h0 ht hp m (by omega)
  rw [← hst] at hinv
  obtain ⟨hbd, hent⟩ := stepP_bd hm hs hj h0 ht hp hinv
  have e1 : cellP a (tabP a s) s (m + 1) = stepP a (tabP a s) s st m := by rw [hst]; simp [cellP, List.range_succ]
  rw [e1]
  refine M.Conv_bind (x := stepP a (tabP a s) s st m) ?_ (M.Conv_ret _)
  rw [hb.wrapU]
  refine M.Conv_bind (M.Conv_guard (by simp)) ?_
  rw [hb.and]
  refine M.Conv_ite (fun t => ?_) (fun t => ?_)
  · have t : bitN s m = 0 := by simpa using t
    refine (M.Conv_ret _).of ?_
    simp [stepP, t]
  · have hbit : bitN s m = 1 := Decidable.byContradiction fun c => by have := hb.zero c; simp [this] at t
    obtain ⟨q1, q2, q3⟩ := hb.one hbit
    obtain ⟨e, hge, he, hrow⟩ := hent hbit
    obtain ⟨c1, c2, c3⟩ := ent_val hm hrow hj
    have hpn := popTo_le s 10
    have hw1 : w64 ((a.length : Int) - (popN s : Int)) = ((a.length - popN s : Nat) : Int) := by
      have : popN s ≤ a.length := by have := popTo_le s a.length; rw [popTo_n hs (by omega)] at this; exact this
      rw [w64_eq _ (by omega)]; omega
    have hw2 : ∀ W : Nat, W ≤ s → w64 ((s : Int) - (W : Int)) = ((s - W : Nat) : Int) := fun W hW => by rw [w64_eq _ (by omega)]; omega
    rw [hb.shl, hw1, hw2 _ q1]
    refine M.Conv_bind (M.Conv_guard (by simp)) (M.Conv_bind c1 (M.Conv_bind c2 (M.Conv_bind (M.Conv_idx (x := e.1) (by rw [List.getElem?_map, hge]; rfl)) (M.Conv_bind (spec_l01Times_ok _ _) ?_))))
    have hv := val_cases c3
    generalize hvv : entA a (a.length - popN s) m = v at *
    obtain ⟨t1, t2⟩ := timesI_val hv (he.weight hp9)
    have es : stepP a (tabP a s) s st m = (bif (v == (-1000000000000000)) || (e.1 == (-1000000000000000)) then st
      else bif decide (st.1 < v + e.1) then (v + e.1, e.2) else bif (v + e.1) == st.1 then (st.1, st.2 + e.2) else st) := by
      unfold stepP; rw [hbit, hge, hvv]; rfl
    rw [es] at hbd ⊢
    rw [t2]
    cases hskip : ((v == (-1000000000000000)) || (e.1 == (-1000000000000000))) with
    | true => exact M.Conv_ite (fun _ => M.Conv_ret _) (fun t => by simp at t)
    | false =>
      rw [hskip] at t1 hbd
      simp only [cond_false] at t1 hbd ⊢
      rw [t1]
      refine M.Conv_ite (fun t => by simp at t) (fun _ => ?_)
      have hsnd : M.Conv (M.idx ((tabP a s).map Prod.snd) ((s - 2 ^ m : Nat) : Int)) e.2 := M.Conv_idx (by rw [List.getElem?_map, hge]; rfl)
      refine M.Conv_bind (M.Conv_ite2 (fun _ => M.Conv_bind hsnd (M.Conv_ret _)) fun h1 => M.Conv_ite2 (s := st) (fun h2 => M.Conv_bind hsnd ((M.Conv_ret _).of (r' := (st.1, st.2 + e.2)) ?_)) (fun _ => M.Conv_ret _)) (M.Conv_ret _)
      rw [h1, h2] at hbd
      simp only [cond_false, cond_true] at hbd
      have hK := ten_pow hp9
      have hK0 : (0 : Int) ≤ 10 ^ p := Int.le_of_lt (Int.pow_pos (by decide))
      have : ((m + 1 : Nat) : Int) * 10 ^ p ≤ 10 * 10 ^ p := Int.mul_le_mul_of_nonneg_right (by omega) hK0
      rcases hbd with hbd | hbd
      · have h2 : v + e.1 = st.1 := by simpa using h2
        have h3 := congrArg Prod.fst hbd
        simp only at h3
        simp only [Bool.or_eq_false_iff, beq_eq_false_iff_ne, ne_eq] at hskip
        have := he.weight hp9
        omega
      · rw [w64_eq _ (by omega)]
theorem conv_up {σ ρ : Type} {f : σ → M (σ ⊕ ρ)} {r : ρ} (st : Nat → σ) {n k0 : Nat} (hk : k0 ≤ n) (h : ∀ k, k0 ≤ k → k < n → M.Conv (f (st k)) (.inl (st (k + 1)))) (hs : M.Conv (f (st n)) (.inr r)) : M.Conv (M.loop f (st k0)) r := by
  have H : ∀ (d k : Nat), k0 ≤ k → k + d = n → ConvL f (st k) r := by
    intro d
    induction d with
    | zero => intro k _ e; obtain rfl : k = n := by omega
              exact ConvL.stop hs
    | succ d ih => intro k h1 e; exact ConvL.step (h k h1 (by omega)) (ih (k + 1) (by omega) (by omega))
  exact (H (n - k0) k0 (Nat.le_refl _) (by omega)).conv
theorem spec_l10Best_ok {a : List (List Int)} (hm : Mat a a.length) : M.Conv (spec_l10Best a) ((tabP a (2 ^ a.length)).map Prod.fst, (tabP a (2 ^ a.length)).map Prod.snd) := by
  have hrows := hm.rows
  obtain ⟨hsh, _, hN, hN1, hwr⟩ := pow_ok (n := a.length) (by omega)
  unfold spec_l10Best
  refine M.Conv_bind (x := ((tabP a (2 ^ a.length)).map Prod.fst, (tabP a (2 ^ a.length)).map Prod.snd, ((2 ^ a.length : Nat) : Int))) ?_ (M.Conv_ret _)
  rw [hsh]
  refine conv_up (fun k => (((tabP a k).map Prod.fst, (tabP a k).map Prod.snd, (k : Int)) : (List Int) × (List Int) × Int)) (k0 := 1) hN1 (fun k h1 hk2 => ?_) ?_
  · refine M.Conv_bind (M.Conv_guard (by simpa using hwr)) (M.Conv_ite (fun _ => ?_) (fun t => ?_))
    · have ht := tabOK hm k (by omega)
      obtain ⟨_, hp10, hp⟩ := pop_ok (s := k) (by omega)
      obtain ⟨p, hp⟩ : ∃ p, popN k = p + 1 := ⟨popN k - 1, by omega⟩
      refine M.Conv_bind (Conv_forV (fun m => (popTo k m : Int)) (by omega) fun m hj => ?_) ?_
      · have hb := bit_ok (s := k) (j := m) (by omega) (by omega)
        refine M.Conv_bind (M.Conv_guard (by rw [hb.wrapU]; simp)) ((M.Conv_ret _).of ?_)
        rw [hb.andU, popTo_succ, w64_eq _ (by have := popTo_le k m; have := bitN_le k m; omega), Int.natCast_add]
      · rw [popTo_n hk2 (by omega)]
        refine M.Conv_bind (Conv_forV (fun m => cellP a (tabP a k) k m) (by omega) fun m hj => spec_cell hm hk2 (by omega) ht hp hj rfl) ?_
        refine M.Conv_bind (M.Conv_app (by simp [tabP_len]; omega)) (M.Conv_bind (M.Conv_app (by simp [tabP_len]; omega)) ((M.Conv_ret _).of ?_))
        have e : (k == 0) = false := by simp; omega
        rw [tabP, e, w64_eq _ (by simp only; omega)]
        simp
    · have := of_decide_eq_false t
      simp only at this
      omega
  · refine M.Conv_bind (M.Conv_guard (by simpa using hwr)) (M.Conv_ite (fun t => ?_) fun _ => M.Conv_ret _)
    have := of_decide_eq_true t
    simp only at this
    omega
theorem conv_up0 {σ ρ : Type} {f : σ → M (σ ⊕ ρ)} {r : ρ} {s0 : σ} (st : Nat → σ) {n k0 : Nat} (e : s0 = st k0) (hk : k0 ≤ n) (h : ∀ k, k0 ≤ k → k < n → M.Conv (f (st k)) (.inl (st (k + 1)))) (hs : M.Conv (f (st n)) (.inr r)) : M.Conv (M.loop f s0) r := by
  subst e; exact conv_up st hk h hs

def mkP (e : Int × Int) : TPermanent := ⟨e.1, e.2⟩
/-- the program's table, filled from the top down to k entries -/
def lstP (a : List (List Int)) (k : Nat) : List TPermanent := (List.range (2 ^ a.length)).map fun s => bif decide (2 ^ a.length ≤ s + k) then mkP (((tabP a (2 ^ a.length))[2 ^ a.length - 1 - s]?).getD (0, 0)) else ⟨0, 0⟩
theorem lstP_len (a : List (List Int)) (k : Nat) : (lstP a k).length = 2 ^ a.length := by simp [lstP]
theorem lstP_get {a : List (List Int)} {k s : Nat} (h : s < 2 ^ a.length) : (lstP a k)[s]? = some (bif decide (2 ^ a.length ≤ s + k) then mkP (((tabP a (2 ^ a.length))[2 ^ a.length - 1 - s]?).getD (0, 0)) else ⟨0, 0⟩) := by
  simp [lstP, List.getElem?_map, List.getElem?_range h]
theorem lstP_set {a : List (List Int)} {k : Nat} {x : TPermanent} (h : k < 2 ^ a.length) (hx : x = mkP (((tabP a (2 ^ a.length))[k]?).getD (0, 0))) : (lstP a k).set (2 ^ a.length - 1 - k) x = lstP a (k + 1) := by
  apply List.ext_getElem?
  intro i
  by_cases hi : i < 2 ^ a.length
  · rw [List.getElem?_set, lstP_get hi, lstP_get hi, lstP_len]
    by_cases e : 2 ^ a.length - 1 - k = i
    · rw [if_pos e, if_pos (by omega), show decide (2 ^ a.length ≤ i + (k + 1)) = true by simp; omega, hx, show 2 ^ a.length - 1 - i = k by omega]; rfl
    · rw [if_neg e]
      congr 2
      rw [Bool.eq_iff_iff]; simp; omega
  · rw [List.getElem?_eq_none (by simp [lstP_len]; omega), List.getElem?_eq_none (by simp [lstP_len]; omega)]
theorem tab_last {a : List (List Int)} {k : Nat} (h : k < 2 ^ a.length) : ((tabP a (2 ^ a.length))[k]?).getD (0, 0) = bif k == 0 then (0, 1) else cellP a (tabP a k) k a.length := by
  rw [tabP_get (a := a) (k := k + 1) (m := 2 ^ a.length) (s := k) (by omega) (by omega), tabP, List.getElem?_append_right (by rw [tabP_len]; omega), tabP_len, Nat.sub_self]
  rfl
theorem impl_cell {a : List (List Int)} {k p m : Nat} {row : List Int} {st : Int × Int} (hm : Mat a a.length) (hs : k < 2 ^ a.length) (h0 : k ≠ 0) (ht : TabOK a k) (hp : popN k = p + 1) (hj : m < a.length)
    (hst : st = cellP a (tabP a k) k m) (hrow : a[a.length - popN k]? = some row) :
    M.Conv (M.bind (M.bind (M.idx row (m : Int)) (fun x6 => M.bind (M.guard (decide (0 ≤ (m : Int)))) (fun _ => M.bind (M.idx (lstP a k) (ibit .or .i64 ((2 ^ a.length - 1 - k : Nat) : Int) (ishl .i64 1 (m : Int)))) (fun x7 => M.bind (M.guard (decide (0 ≤ (m : Int)))) (fun _ => M.ite ((((ibit .and .i64 (ishr .i64 ((2 ^ a.length - 1 - k : Nat) : Int) (m : Int)) 1) == 1) || (x6 == (-1000000000000000))) || (x7.weight == (-1000000000000000))) (M.ret (mkP st)) (M.bind (M.ite (((mkP st).count == 0) || (decide ((mkP st).weight < (w64 (x6 + x7.weight))))) (M.ret (⟨(w64 (x6 + x7.weight)), x7.count⟩ : TPermanent)) (M.ite ((w64 (x6 + x7.weight)) == (mkP st).weight) (M.ret (⟨(mkP st).weight, (w64 ((mkP st).count + x7.count))⟩ : TPermanent)) (M.ret (mkP st)))) (fun (s5 : TPermanent) => M.ret s5))))))) (fun (s4 : TPermanent) => M.ret (.inl s4) : TPermanent → M (TPermanent ⊕ TPermanent))) (.inl (mkP (cellP a (tabP a k) k (m + 1)))) := by
  have hrows := hm.rows
  obtain ⟨_, _, hN, _, _⟩ := pow_ok (n := a.length) (by omega)
  have hb := bit_ok (s := k) (j := m) (by omega) (by omega)
  have hb' := bit_ok (s := 2 ^ a.length - 1 - k) (j := m) (by omega) (by omega)
  have hc := (compl_ok (n := a.length) (s := k) (by omega) hs).2 m hj
  have hp9 : p ≤ 9 := by have := (pop_ok (s := k) (by omega)).2.1; omega
  have hinv := cellP_inv hm hs h0 ht hp m (by omega)
  rw [← hst] at hinv
  obtain ⟨hbd, hent⟩ := stepP_bd hm hs hj h0 ht hp hinv
  have e1 : cellP a (tabP a k) k (m + 1) = stepP a (tabP a k) k st m := by rw [hst]; simp [cellP, List.range_succ]
  rw [e1]
  refine M.Conv_bind (x := mkP (stepP a (tabP a k) k st m)) ?_ (M.Conv_ret _)
  obtain ⟨c2, c3⟩ := hm.get hrow hj
  have hve : entA a (a.length - popN k) m = (row[m]?).getD 0 := by simp only [entA, hrow, Option.getD_some]
  rw [hb'.and, hb'.or]
  refine M.Conv_bind c2 (M.Conv_bind (M.Conv_guard (by simp)) ?_)
  by_cases hbit : bitN k m = 1
  · obtain ⟨q1, q2, q3⟩ := hb.one hbit
    obtain ⟨e, hge, he, hrow'⟩ := hent hbit
    have hz : bitN (2 ^ a.length - 1 - k) m = 0 := by omega
    have hpos : 0 < 2 ^ m := Nat.pow_pos (by decide)
    have hlt : 2 ^ a.length - 1 - k + 2 ^ m < 2 ^ a.length := by omega
    have hg := lstP_get (a := a) (k := k) hlt
    rw [show decide (2 ^ a.length ≤ 2 ^ a.length - 1 - k + 2 ^ m + k) = true by simp; omega, show 2 ^ a.length - 1 - (2 ^ a.length - 1 - k + 2 ^ m) = k - 2 ^ m by omega, tabP_get (a := a) (k := k) (m := 2 ^ a.length) (s := k - 2 ^ m) (by omega) (by omega), hge] at hg
    rw [hz]
    refine M.Conv_bind (M.Conv_idx hg) (M.Conv_bind (M.Conv_guard (by simp)) ?_)
    have hv := val_cases c3
    rw [← hve] at hv ⊢
    generalize hvv : entA a (a.length - popN k) m = v at *
    have es : stepP a (tabP a k) k st m = (bif (v == (-1000000000000000)) || (e.1 == (-1000000000000000)) then st
      else bif decide (st.1 < v + e.1) then (v + e.1, e.2) else bif (v + e.1) == st.1 then (st.1, st.2 + e.2) else st) := by
      unfold stepP; rw [hbit, hge, hvv]; rfl
    rw [es] at hbd ⊢
    show M.Conv (M.ite ((((0 : Nat) : Int) == 1 || (v == (-1000000000000000))) || (e.1 == (-1000000000000000))) _ _) _
    rw [show (((0 : Nat) : Int) == 1) = false by decide, Bool.false_or]
    cases hskip : ((v == (-1000000000000000)) || (e.1 == (-1000000000000000))) with
    | true => exact M.Conv_ite (fun _ => M.Conv_ret _) (fun t => by simp at t)
    | false =>
      rw [hskip] at hbd
      simp only [Bool.or_eq_false_iff, beq_eq_false_iff_ne, ne_eq] at hskip
      have hw := he.weight hp9
      have hwv : w64 (v + e.1) = v + e.1 := w64_eq _ (by omega)
      have hcz : (((mkP st).count == 0) || (decide ((mkP st).weight < v + e.1))) = decide (st.1 < v + e.1) := by
        rcases hinv with rfl | ⟨s1, s2, s3, s4⟩
        · simp [mkP]; omega
        · have : ((mkP st).count == 0) = false := by simp only [mkP, beq_eq_false_iff_ne]; omega
          rw [this, Bool.false_or]; rfl
      refine M.Conv_ite (fun t => by simp at t) (fun _ => ?_)
      show M.Conv (M.bind (M.ite (((mkP st).count == 0) || (decide ((mkP st).weight < (w64 (v + e.1))))) (M.ret (⟨(w64 (v + e.1)), e.2⟩ : TPermanent)) (M.ite ((w64 (v + e.1)) == (mkP st).weight) (M.ret (⟨(mkP st).weight, (w64 ((mkP st).count + e.2))⟩ : TPermanent)) (M.ret (mkP st)))) _) _
      simp only [cond_false] at hbd ⊢
      rw [hwv, hcz]
      refine M.Conv_bind (x := mkP (bif decide (st.1 < v + e.1) then (v + e.1, e.2) else bif (v + e.1) == st.1 then (st.1, st.2 + e.2) else st)) ?_ (M.Conv_ret _)
      cases h1 : decide (st.1 < v + e.1) with
      | true => exact M.Conv_ite (fun _ => M.Conv_ret _) (fun t => by simp at t)
      | false =>
        refine M.Conv_ite (fun t => by simp at t) (fun _ => ?_)
        cases h2 : ((v + e.1) == st.1) with
        | false => exact M.Conv_ite (fun t => by rw [show (mkP st).weight = st.1 from rfl, h2] at t; simp at t) (fun _ => M.Conv_ret _)
        | true =>
          refine M.Conv_ite (fun _ => (M.Conv_ret _).of ?_) (fun t => by rw [show (mkP st).weight = st.1 from rfl, h2] at t; simp at t)
          rw [h1, h2] at hbd
          simp only [cond_false, cond_true] at hbd
          have hK := ten_pow hp9
          have hK0 : (0 : Int) ≤ 10 ^ p := Int.le_of_lt (Int.pow_pos (by decide))
          have : ((m + 1 : Nat) : Int) * 10 ^ p ≤ 10 * 10 ^ p := Int.mul_le_mul_of_nonneg_right (by omega) hK0
          rcases hbd with hbd | hbd
          · have h2 : v + e.1 = st.1 := by simpa using h2
            have h3 := congrArg Prod.fst hbd
            simp only at h3
            omega
          · simp only [mkP, cond_false, cond_true]
            rw [w64_eq _ (by omega)]
  · have hz0 := hb.zero hbit
    have hz : bitN (2 ^ a.length - 1 - k) m = 1 := by omega
    rw [hz]
    have hg := lstP_get (a := a) (k := k) (s := 2 ^ a.length - 1 - k) (by omega)
    refine M.Conv_bind (M.Conv_idx hg) (M.Conv_bind (M.Conv_guard (by simp)) (M.Conv_ite (fun _ => (M.Conv_ret _).of ?_) (fun t => by simp at t)))
    unfold stepP
    rw [hz0]; rfl
theorem impl_permanents_ok {a : List (List Int)} (hm : Mat a a.length) : M.Conv (impl_permanents a) (lstP a (2 ^ a.length)) := by
  have hrows := hm.rows
  obtain ⟨_, hsh, hN, hN1, hwr⟩ := pow_ok (n := a.length) (by omega)
  unfold impl_permanents
  rw [hsh]
  refine M.Conv_bind (M.Conv_guard (by simp)) (M.Conv_bind ((M.Conv_make (by omega) (by omega)).of (r' := lstP a 0) ?_) (M.Conv_bind (M.Conv_guard (by simp)) (M.Conv_bind (x := (lstP a (2 ^ a.length), -1)) ?_ (M.Conv_ret _))))
  · apply List.ext_getElem?
    intro i
    by_cases hi : i < 2 ^ a.length
    · rw [lstP_get hi, show decide (2 ^ a.length ≤ i + 0) = false by simp; omega, List.getElem?_replicate, if_pos (by omega)]; rfl
    · rw [List.getElem?_eq_none (by rw [List.length_replicate, Int.toNat_natCast]; omega), List.getElem?_eq_none (by simp [lstP_len]; omega)]
  · have hw0 : w64 (((2 ^ a.length : Nat) : Int) - 1) = ((2 ^ a.length : Nat) : Int) - 1 := w64_eq _ (by omega)
    rw [hw0]
    refine conv_up0 (fun k => (lstP a k, ((2 ^ a.length : Nat) : Int) - 1 - (k : Int))) (n := 2 ^ a.length) (k0 := 0) (by simp) (by omega) (fun k _ hk => ?_) ?_
    · have es : ((2 ^ a.length : Nat) : Int) - 1 - (k : Int) = ((2 ^ a.length - 1 - k : Nat) : Int) := by omega
      simp only [es]
      refine M.Conv_ite (fun _ => M.Conv_bind (x := lstP a (k + 1)) ?_ ((M.Conv_ret _).of ?_)) (fun t => by have := of_decide_eq_false t; omega)
      · have hset : ∀ x, x = mkP (((tabP a (2 ^ a.length))[k]?).getD (0, 0)) → M.Conv (M.upd (lstP a k) ((2 ^ a.length - 1 - k : Nat) : Int) x) (lstP a (k + 1)) := fun x hx => (M.Conv_upd (by rw [lstP_len]; omega)).of (lstP_set hk hx)
        have hrd := lstP_get (a := a) (k := k) (s := 2 ^ a.length - 1 - k) (by omega)
        rw [tab_last hk] at hset
        by_cases h0 : k = 0
        · subst h0
          refine M.Conv_ite (fun _ => ?_) (fun t => absurd (by omega) (beq_eq_false_iff_ne.1 t))
          exact M.Conv_bind (M.Conv_idx hrd) (M.Conv_bind (hset _ rfl) (M.Conv_ret _))
        · refine M.Conv_ite (fun t => by have := eq_of_beq t; omega) (fun _ => ?_)
          have ht := tabOK hm k (by omega)
          obtain ⟨_, hp10, hp⟩ := pop_ok (s := k) (by omega)
          obtain ⟨p, hp⟩ : ∃ p, popN k = p + 1 := ⟨popN k - 1, by omega⟩
          have hcp := (compl_ok (n := a.length) (s := k) (by omega) hk).1
          have hr : a[a.length - popN k]? = some (a[a.length - popN k]'(by omega)) := List.getElem?_eq_getElem _
          generalize (a[a.length - popN k]'(by omega)) = row at hr
          have hl := (hm.row row (List.mem_of_getElem? hr)).1
          refine M.Conv_bind (pop_ok (by omega)).1 (M.Conv_bind (x := row) ?_ ?_)
          · rw [show popN (2 ^ a.length - 1 - k) = a.length - popN k by omega]; exact get_row hr
          · rw [hl]
            refine M.Conv_bind (Conv_forV (fun m => mkP (cellP a (tabP a k) k m)) (by omega) fun m hj => impl_cell hm hk h0 ht hp hj rfl hr) ?_
            exact M.Conv_bind (M.Conv_idx hrd) (M.Conv_bind (hset _ (by rw [show (k == 0) = false by simpa using h0]; rfl)) (M.Conv_ret _))
      · rw [w64_eq _ (by omega)]
        simp only [Sum.inl.injEq, Prod.mk.injEq, true_and]; omega
    · refine M.Conv_ite (fun t => ?_) fun _ => (M.Conv_ret _).of ?_
      · have := of_decide_eq_true t
        simp only at this
        omega
      · simp only [Sum.inr.injEq, Prod.mk.injEq, true_and]; omega

theorem same_sq {a : List (List Int)} (sa : smII a) {α : Type} {m m' : M α} {x : α} {P : α → Prop} (hx : P x) (h : sqB a = true → Two m m' P) :
    Two (M.bind (spec_l02Square a) (fun x1 => M.ite (!x1) (M.ret x) m)) (M.bind (impl_isSquare a) (fun x1 => M.ite (!x1) (M.ret x) m')) P := by
  refine Two.bindC (spec_l02Square_ok sa) (impl_isSquare_ok sa) (Two.ite (fun _ => Two.ret _ hx) (fun t => h (by simpa using t)))
def topE (a : List (List Int)) : Int × Int := ((tabP a (2 ^ a.length))[2 ^ a.length - 1]?).getD (0, 0)
theorem top_reads {a : List (List Int)} (hm : Mat a a.length) :
    M.Conv (M.idx ((tabP a (2 ^ a.length)).map Prod.fst) (w64 ((((tabP a (2 ^ a.length)).map Prod.fst).length : Int) - 1))) (topE a).1 ∧
    M.Conv (M.idx ((tabP a (2 ^ a.length)).map Prod.snd) (w64 ((((tabP a (2 ^ a.length)).map Prod.snd).length : Int) - 1))) (topE a).2 ∧
    M.Conv (M.idx (lstP a (2 ^ a.length)) 0) (mkP (topE a)) ∧ EntP a.length (topE a) := by
  have hrows := hm.rows
  obtain ⟨_, _, hN, hN1, hwr⟩ := pow_ok (n := a.length) (by omega)
  have hl : ((2 ^ a.length - 1 : Nat) : Int) = ((2 ^ a.length : Nat) : Int) - 1 := by omega
  have hg : (tabP a (2 ^ a.length))[2 ^ a.length - 1]? = some ((tabP a (2 ^ a.length))[2 ^ a.length - 1]'(by rw [tabP_len]; omega)) := List.getElem?_eq_getElem _
  generalize ((tabP a (2 ^ a.length))[2 ^ a.length - 1]'(by rw [tabP_len]; omega)) = e at hg
  have he : topE a = e := by unfold topE; rw [hg]; rfl
  rw [he]
  refine ⟨?_, ?_, ?_, ?_⟩
  · rw [List.length_map, tabP_len, w64_eq _ (by omega), ← hl]; exact M.Conv_idx (by rw [List.getElem?_map, hg]; rfl)
  · rw [List.length_map, tabP_len, w64_eq _ (by omega), ← hl]; exact M.Conv_idx (by rw [List.getElem?_map, hg]; rfl)
  · have := lstP_get (a := a) (k := 2 ^ a.length) (s := 0) (by omega)
    rw [show decide (2 ^ a.length ≤ 0 + 2 ^ a.length) = true by simp, Nat.sub_zero, hg] at this
    exact M.Conv_idx (i := 0) this
  · have := tabOK hm _ (Nat.le_refl _) _ _ (by omega) hg
    have hc := (compl_ok (n := a.length) (s := 0) (by omega) (by omega)).1
    rw [show popN 0 = 0 by decide, Nat.sub_zero, Nat.add_zero] at hc
    rwa [hc] at this
def tab {α : Type} (n : Nat) (h : Nat → α) : List α := (List.range n).map h
theorem tab_len {α : Type} (n : Nat) (h : Nat → α) : (tab n h).length = n := by simp [tab]
theorem tab_get {α : Type} {n i : Nat} {h : Nat → α} (hi : i < n) : (tab n h)[i]? = some (h i) := by simp [tab, List.getElem?_range hi]
theorem tab_none {α : Type} {n i : Nat} {h : Nat → α} (hi : n ≤ i) : (tab n h)[i]? = none := List.getElem?_eq_none (by rw [tab_len]; exact hi)
theorem tab_ext {α : Type} {n : Nat} {h : Nat → α} {l : List α} (hl : l.length = n) (e : ∀ i, i < n → l[i]? = some (h i)) : l = tab n h := by
  apply List.ext_getElem?
  intro i
  by_cases hi : i < n
  · rw [e i hi, tab_get hi]
  · rw [tab_none (by omega), List.getElem?_eq_none (by omega)]
theorem tab_congr {α : Type} {n : Nat} {h g : Nat → α} (e : ∀ i, i < n → h i = g i) : tab n h = tab n g := by
  refine tab_ext (tab_len _ _) fun i hi => ?_
  rw [tab_get hi, e i hi]
theorem tab_set {α : Type} {n i : Nat} {h g : Nat → α} {v : α} (hv : v = g i) (e : ∀ p, p < n → p ≠ i → h p = g p) : (tab n h).set i v = tab n g := by
  refine tab_ext (by rw [List.length_set, tab_len]) fun p hp => ?_
  rw [List.getElem?_set]
  by_cases q : i = p
  · subst q; rw [if_pos rfl, if_pos (by rw [tab_len]; exact hp), hv]
  · rw [if_neg q, tab_get hp, e p hp (fun c => q c.symm)]
theorem tab_rep {α : Type} (n : Nat) (z : α) : List.replicate n z = tab n (fun _ => z) := tab_ext (by simp) fun i hi => by rw [List.getElem?_replicate, if_pos hi]
theorem tab_snoc {α : Type} (n : Nat) (h : Nat → α) : tab n h ++ [h n] = tab (n + 1) h := by simp [tab, List.range_succ]
theorem idx_tab {α : Type} {n i : Nat} {h : Nat → α} (hi : i < n) : M.Conv (M.idx (tab n h) (i : Int)) (h i) := M.Conv_idx (tab_get hi)
theorem upd_tab {α : Type} {n i : Nat} {h g : Nat → α} {v : α} (hi : i < n) (hv : v = g i) (e : ∀ p, p < n → p ≠ i → h p = g p) : M.Conv (M.upd (tab n h) (i : Int) v) (tab n g) :=
  (M.Conv_upd (by rw [tab_len]; exact hi)).of (tab_set hv e)
def matF (m n : Nat) (f : Nat → Nat → Int) : List (List Int) := tab m fun i => tab n (f i)
theorem matF_len (m n : Nat) (f : Nat → Nat → Int) : (matF m n f).length = m := tab_len _ _
theorem matF_congr {m n : Nat} {f g : Nat → Nat → Int} (e : ∀ i j, i < m → j < n → f i j = g i j) : matF m n f = matF m n g := tab_congr fun i hi => tab_congr fun j hj => e i j hi hj
structure Shp (a : List (List Int)) (w : Nat) : Prop where
  rows : 1 ≤ a.length ∧ a.length ≤ 10
  cols : 1 ≤ w ∧ w ≤ 10
  row : ∀ r ∈ a, r.length = w
theorem Mat.shp {a : List (List Int)} {w : Nat} (hm : Mat a w) : Shp a w := ⟨hm.rows, hm.cols, fun r hr => (hm.row r hr).1⟩
theorem mat_of {m n : Nat} {f : Nat → Nat → Int} (h1 : 1 ≤ m ∧ m ≤ 10) (h2 : 1 ≤ n ∧ n ≤ 10) (hv : ∀ i j, i < m → j < n → valB (f i j) = true) : Mat (matF m n f) n := by
  refine ⟨by rw [matF_len]; exact h1, h2, fun r hr => ?_⟩
  simp only [matF, tab, List.mem_map, List.mem_range] at hr
  obtain ⟨i, hi, rfl⟩ := hr
  refine ⟨by simp, fun x hx => ?_⟩
  simp only [List.mem_map, List.mem_range] at hx
  obtain ⟨j, hj, rfl⟩ := hx
  exact hv i j hi hj
theorem ent_read {a : List (List Int)} {w i j : Nat} (hm : Shp a w) (hi : i < a.length) (hj : j < w) : ∃ r, M.Conv (M.idx a (i : Int)) r ∧ r.length = w ∧ M.Conv (M.idx r (j : Int)) (entA a i j) := by
  have hr : a[i]? = some a[i] := List.getElem?_eq_getElem hi
  have hl := hm.row _ (List.mem_of_getElem? hr)
  have h2 : a[i][j]? = some (a[i][j]'(by omega)) := List.getElem?_eq_getElem _
  refine ⟨_, get_row hr, hl, (M.Conv_idx h2).of ?_⟩
  simp only [entA, hr, Option.getD_some, h2]
/-- a matrix filled by a function of its places -/
theorem matrixBy_ok {m n : Nat} (F : Int → Int → M Int) (g : Nat → Nat → Int) (hm : m ≤ 1048576) (hn : n ≤ 1048576) (hF : ∀ i j : Nat, i < m → j < n → M.Conv (F i j) (g i j)) :
    M.Conv (M.bind (M.make (m : Int) []) (fun l1 => M.bind (M.forI 0 (l1.length : Int) (fun s => s) (fun i1 => (fun (s1 : (List (List Int))) => M.bind (M.make (n : Int) 0) (fun l2 => M.bind (M.idx s1 i1) (fun x2 => M.bind (M.upd s1 i1 l2) (fun l3 => M.bind (M.idx l3 i1) (fun x3 => M.bind (M.forI 0 (x3.length : Int) (fun s => s) (fun i2 => (fun (s2 : (List (List Int))) => M.bind (M.idx s2 i1) (fun x5 => M.bind (F i1 i2) (fun x6 => M.bind (M.idx x5 i2) (fun x7 => M.bind (M.upd x5 i2 x6) (fun l4 => M.ret (.inl (s2.set i1.toNat l4)))))))) l3) (fun x4 => M.ret (.inl x4)))))))) l1) (fun x1 => M.ret x1))) (matF m n g) := by
  have e0 : List.replicate m ([] : List Int) = tab m (fun p => bif decide (p < 0) then tab n (g p) else []) := by
    rw [tab_rep]; exact tab_congr fun i _ => by simp
  refine M.Conv_bind ((M.Conv_make (by omega) (by omega)).of (r' := tab m (fun p => bif decide (p < 0) then tab n (g p) else [])) (by rw [Int.toNat_natCast, e0])) ?_
  rw [tab_len]
  refine M.Conv_bind (x := matF m n g) ((Conv_forV (fun i => tab m (fun p => bif decide (p < i) then tab n (g p) else [])) (by omega) fun i hi => ?_).of (tab_congr fun p hp => by rw [decide_eq_true hp]; rfl)) (M.Conv_ret _)
  refine M.Conv_bind ((M.Conv_make (by omega) (by omega)).of (r' := tab n (fun _ => 0)) (by rw [Int.toNat_natCast, tab_rep])) ?_
  refine M.Conv_bind (idx_tab hi) (M.Conv_bind (x := tab m (fun p => bif p == i then tab n (fun q => bif decide (q < 0) then g i q else 0) else bif decide (p < i) then tab n (g p) else [])) (upd_tab hi ?_ ?_) ?_)
  · simp
  · intro p hp hne
    rw [show (p == i) = false by simpa using hne]; rfl
  · refine M.Conv_bind (idx_tab hi) ?_
    rw [beq_self_eq_true, cond_true, tab_len]
    refine M.Conv_bind (x := tab m (fun p => bif decide (p < i + 1) then tab n (g p) else [])) ((Conv_forV (fun j => tab m (fun p => bif p == i then tab n (fun q => bif decide (q < j) then g i q else 0) else bif decide (p < i) then tab n (g p) else [])) (by omega) fun j hj => ?_).of ?_) (M.Conv_ret _)
    · refine M.Conv_bind (idx_tab hi) ?_
      rw [beq_self_eq_true, cond_true]
      refine M.Conv_bind (hF i j hi hj) (M.Conv_bind (idx_tab hj) (M.Conv_bind (x := tab n (fun q => bif decide (q < j + 1) then g i q else 0)) (upd_tab hj ?_ ?_) ((M.Conv_ret _).of (congrArg Sum.inl ?_))))
      · simp
      · intro q hq hne
        congr 1
        rw [Bool.eq_iff_iff]; simp; omega
      · rw [Int.toNat_natCast]
        refine tab_set ?_ ?_
        · simp
        · intro p hp hne
          rw [show (p == i) = false by simpa using hne]; rfl
    · refine tab_congr fun p hp => ?_
      by_cases e : p = i
      · subst e
        rw [beq_self_eq_true, cond_true, decide_eq_true (by omega)]
        exact tab_congr fun q hq => by rw [decide_eq_true hq]; rfl
      · rw [show (p == i) = false by simpa using e]
        simp only [cond_false]
        congr 1
        rw [Bool.eq_iff_iff]; simp; omega
theorem spec_l02Bottom_ok {m n : Nat} (hm : m ≤ 1048576) (hn : n ≤ 1048576) : M.Conv (spec_l02Bottom (m : Int) (n : Int)) (matF m n fun _ _ => -1000000000000000) := by
  unfold spec_l02Bottom
  refine M.Conv_bind (Conv_forV (fun i => tab i fun _ => tab n fun _ => (-1000000000000000 : Int)) (by omega) fun i hi => ?_) (M.Conv_ret _)
  refine M.Conv_bind (Conv_forV (fun j => tab j fun _ => (-1000000000000000 : Int)) (by omega) fun j hj => ?_) ?_
  · exact M.Conv_bind (M.Conv_app (by simp [tab_len]; omega)) ((M.Conv_ret _).of (congrArg Sum.inl (tab_snoc _ _)))
  · exact M.Conv_bind (M.Conv_app (by simp [tab_len]; omega)) ((M.Conv_ret _).of (congrArg Sum.inl (tab_snoc i _)))
/-- one entry set -/
theorem matF_set {m n i j : Nat} {f g : Nat → Nat → Int} (e : ∀ p q, p < m → q < n → ¬(p = i ∧ q = j) → f p q = g p q) : (matF m n f).set i ((tab n (f i)).set j (g i j)) = matF m n g := by
  by_cases hi : i < m
  · refine tab_set (tab_set rfl fun q hq hne => e i q hi hq (by omega)) fun p hp hne => tab_congr fun q hq => e p q hp hq (by omega)
  · rw [List.set_eq_of_length_le (by rw [matF_len]; omega)]
    exact matF_congr fun p q hp hq => e p q hp hq (by omega)
/-- filled row by row: everything before (i, j) is new -/
def part (g z : Nat → Nat → Int) (i j p q : Nat) : Int := bif decide (p < i) || (decide (p = i) && decide (q < j)) then g p q else z p q
theorem part_step {m n i j : Nat} {g z : Nat → Nat → Int} : (matF m n (part g z i j)).set i ((tab n (part g z i j i)).set j (g i j)) = matF m n (part g z i (j + 1)) := by
  rw [show g i j = part g z i (j + 1) i j by simp [part]]
  refine matF_set fun p q _ _ h => ?_
  unfold part
  congr 1
  rw [Bool.eq_iff_iff]; simp; omega
theorem part_row {m n i : Nat} {g z : Nat → Nat → Int} : matF m n (part g z i n) = matF m n (part g z (i + 1) 0) := by
  refine matF_congr fun p q _ hq => ?_
  unfold part
  congr 1
  rw [Bool.eq_iff_iff]; simp; omega
theorem part_zero {m n : Nat} {g z : Nat → Nat → Int} : matF m n (part g z 0 0) = matF m n z := matF_congr fun p q _ _ => by simp [part]
theorem part_all {m n : Nat} {g z : Nat → Nat → Int} : matF m n (part g z m 0) = matF m n g := matF_congr fun p q hp _ => by simp [part, hp]
def Rel {α β : Type} (m : M α) (m' : M β) (Q : α → β → Prop) : Prop := ∃ r r', M.Conv m r ∧ M.Conv m' r' ∧ Q r r'
theorem Rel.of {α β : Type} {m : M α} {m' : M β} {Q : α → β → Prop} {r : α} {r' : β} (h : M.Conv m r) (h' : M.Conv m' r') (q : Q r r') : Rel m m' Q := ⟨r, r', h, h', q⟩
theorem Rel.bind {α β γ δ : Type} {m : M α} {m' : M β} {f : α → M γ} {f' : β → M δ} {P : α → β → Prop} {Q : γ → δ → Prop} (h : Rel m m' P) (g : ∀ x x', P x x' → Rel (f x) (f' x') Q) : Rel (M.bind m f) (M.bind m' f') Q := by
  obtain ⟨x, x', h1, h2, p⟩ := h
  obtain ⟨r, r', g1, g2, q⟩ := g x x' p
  exact ⟨r, r', M.Conv_bind h1 g1, M.Conv_bind h2 g2, q⟩
theorem Rel.left {α γ δ : Type} {m : M α} {f : α → M γ} {m' : M δ} {Q : γ → δ → Prop} {x : α} (h : M.Conv m x) (g : Rel (f x) m' Q) : Rel (M.bind m f) m' Q := by
  obtain ⟨r, r', g1, g2, q⟩ := g
  exact ⟨r, r', M.Conv_bind h g1, g2, q⟩
theorem Rel.right {α γ δ : Type} {m : M α} {f : α → M γ} {m' : M δ} {Q : δ → γ → Prop} {x : α} (h : M.Conv m x) (g : Rel m' (f x) Q) : Rel m' (M.bind m f) Q := by
  obtain ⟨r, r', g1, g2, q⟩ := g
  exact ⟨r, r', g1, M.Conv_bind h g2, q⟩
theorem Rel.two {α : Type} {m m' : M α} {P : α → Prop} (h : Rel m m' fun x y => x = y ∧ P x) : Two m m' P := by
  obtain ⟨r, r', h1, h2, rfl, p⟩ := h
  exact ⟨r, h1, h2, p⟩
theorem Rel.iteL {α β : Type} {b : Bool} {x y : M α} {m' : M β} {Q : α → β → Prop} (h1 : b = true → Rel x m' Q) (h2 : b = false → Rel y m' Q) : Rel (M.ite b x y) m' Q := by
  cases b
  · obtain ⟨r, r', g1, g2, q⟩ := h2 rfl
    exact ⟨r, r', M.Conv_ite (fun t => by simp at t) (fun _ => g1), g2, q⟩
  · obtain ⟨r, r', g1, g2, q⟩ := h1 rfl
    exact ⟨r, r', M.Conv_ite (fun _ => g1) (fun t => by simp at t), g2, q⟩
theorem Rel.iteR {α β : Type} {b : Bool} {x y : M β} {m' : M α} {Q : α → β → Prop} (h1 : b = true → Rel m' x Q) (h2 : b = false → Rel m' y Q) : Rel m' (M.ite b x y) Q := by
  cases b
  · obtain ⟨r, r', g1, g2, q⟩ := h2 rfl
    exact ⟨r, r', g1, M.Conv_ite (fun t => by simp at t) (fun _ => g2), q⟩
  · obtain ⟨r, r', g1, g2, q⟩ := h1 rfl
    exact ⟨r, r', g1, M.Conv_ite (fun _ => g2) (fun t => by simp at t), q⟩
theorem Rel.ite {α β : Type} {b b' : Bool} {x y : M α} {x' y' : M β} {Q : α → β → Prop} (e : b = b') (h1 : b = true → Rel x x' Q) (h2 : b = false → Rel y y' Q) : Rel (M.ite b x y) (M.ite b' x' y') Q := by
  subst e
  exact Rel.iteL (fun t => Rel.iteR (fun _ => h1 t) (fun t' => by rw [t] at t'; cases t')) (fun t => Rel.iteR (fun t' => by rw [t] at t'; cases t') (fun _ => h2 t))
theorem Rel.ret {α β : Type} {x : α} {y : β} {Q : α → β → Prop} (q : Q x y) : Rel (M.ret x) (M.ret y) Q := ⟨x, y, M.Conv_ret _, M.Conv_ret _, q⟩
/-- one round of two loops: both go on, or both stop -/
def Round {σ σ' ρ ρ' : Type} (R : σ → σ' → Prop) (Q : ρ → ρ' → Prop) (y : σ ⊕ ρ) (y' : σ' ⊕ ρ') : Prop := (∃ t t', y = .inl t ∧ y' = .inl t' ∧ R t t') ∨ (∃ r r', y = .inr r ∧ y' = .inr r' ∧ Q r r')
theorem Round.on {σ σ' ρ ρ' : Type} {R : σ → σ' → Prop} {Q : ρ → ρ' → Prop} {t : σ} {t' : σ'} (h : R t t') : Round R Q (.inl t) (.inl t') := .inl ⟨t, t', rfl, rfl, h⟩
theorem Rel.for {σ σ' ρ ρ' : Type} {n : Nat} {f : Int → σ → M (σ ⊕ ρ)} {f' : Int → σ' → M (σ' ⊕ ρ')} {fin : σ → ρ} {fin' : σ' → ρ'} {s : σ} {s' : σ'} {Q : ρ → ρ' → Prop} (R : Nat → σ → σ' → Prop) (hn : n ≤ 9223372036854775807) (h0 : R 0 s s')
    (step : ∀ (i : Nat) t t', i < n → R i t t' → Rel (f i t) (f' i t') (Round (R (i + 1)) Q)) (stop : ∀ t t', R n t t' → Q (fin t) (fin' t')) : Rel (M.forI 0 (n : Int) fin f s) (M.forI 0 (n : Int) fin' f' s') Q := by
  have H : ∀ (d i : Nat) t t', i + d = n → R i t t' → ∃ r r', (∃ N, ∀ m, N ≤ m → M.forN (n : Int) fin f m d (i : Int) t = some r) ∧ (∃ N, ∀ m, N ≤ m → M.forN (n : Int) fin' f' m d (i : Int) t' = some r') ∧ Q r r' := by
    intro d
    induction d with
    | zero =>
      intro i t t' e hR
      obtain rfl : i = n := by omega
      exact ⟨fin t, fin' t', ⟨0, fun m _ => by simp [M.forN]⟩, ⟨0, fun m _ => by simp [M.forN]⟩, stop t t' hR⟩
    | succ d ih =>
      intro i t t' e hR
      have hlt : (i : Int) < n := by omega
      obtain ⟨y, y', ⟨N, hy⟩, ⟨N', hy'⟩, hc⟩ := step i t t' (by omega) hR
      rcases hc with ⟨u, u', rfl, rfl, hR⟩ | ⟨r, r', rfl, rfl, hq⟩
      · obtain ⟨r, r', ⟨K, hr⟩, ⟨K', hr'⟩, hq⟩ := ih (i + 1) u u' (by omega) hR
        rw [Int.natCast_add] at hr hr'
        refine ⟨r, r', ⟨max N K, fun m hm => ?_⟩, ⟨max N' K', fun m hm => ?_⟩, hq⟩
        · simp [M.forN, hlt, hy m (by omega)]; exact hr m (by omega)
        · simp [M.forN, hlt, hy' m (by omega)]; exact hr' m (by omega)
      · exact ⟨r, r', ⟨N, fun m hm => by simp [M.forN, hlt, hy m hm]⟩, ⟨N', fun m hm => by simp [M.forN, hlt, hy' m hm]⟩, hq⟩
  obtain ⟨r, r', ⟨N, h1⟩, ⟨N', h2⟩, q⟩ := H n 0 s s' (by omega) h0
  refine ⟨r, r', ⟨N, fun m hm => ?_⟩, ⟨N', fun m hm => ?_⟩, q⟩
  · have := h1 m hm; have hn' : (n : Int) ≤ 9223372036854775807 := by omega
    simp [M.forI, hn']; exact this
  · have := h2 m hm; have hn' : (n : Int) ≤ 9223372036854775807 := by omega
    simp [M.forI, hn']; exact this
/-- a loop with a round count on the left, any loop on the right -/
theorem Rel.loop {σ σ' ρ ρ' : Type} {f : σ → M (σ ⊕ ρ)} {f' : σ' → M (σ' ⊕ ρ')} {s : σ} {s' : σ'} {Q : ρ → ρ' → Prop} (R : σ → σ' → Prop) (μ : σ → Nat) (h0 : R s s')
    (step : ∀ t t', R t t' → Rel (f t) (f' t') (Round (fun u u' => R u u' ∧ μ u < μ t) Q)) : Rel (M.loop f s) (M.loop f' s') Q := by
  have H : ∀ (d : Nat) t t', μ t < d → R t t' → ∃ r r', ConvL f t r ∧ ConvL f' t' r' ∧ Q r r' := by
    intro d
    induction d with
    | zero => intro t t' h; omega
    | succ d ih =>
      intro t t' h hR
      obtain ⟨y, y', hy, hy', hc⟩ := step t t' hR
      rcases hc with ⟨u, u', rfl, rfl, hR, hlt⟩ | ⟨r, r', rfl, rfl, hq⟩
      · obtain ⟨r, r', k1, k2, q⟩ := ih u u' (by omega) hR
        exact ⟨r, r', k1.step hy, k2.step hy', q⟩
      · exact ⟨r, r', ConvL.stop hy, ConvL.stop hy', hq⟩
  obtain ⟨r, r', h1, h2, q⟩ := H (μ s + 1) s s' (by omega) h0
  exact ⟨r, r', h1.conv, h2.conv, q⟩

def nd (l : List Int) (i : Nat) : Int := (l[i]?).getD 0
theorem nd_read {l : List Int} {i : Nat} (h : i < l.length) : M.Conv (M.idx l (i : Int)) (nd l i) := by
  have : l[i]? = some (l[i]'h) := List.getElem?_eq_getElem _
  refine M.Conv_idx ?_
  unfold nd; rw [this]; rfl
def OkNodes (n : Nat) (l : List Int) : Prop := ∀ i, i < l.length → (0 ≤ nd l i ∧ nd l i ≤ (n : Int) - 1) ∧ (0 < i → nd l (i - 1) < nd l i)
theorem OkNodes.len {n : Nat} {l : List Int} (h : OkNodes n l) : l.length ≤ n := by
  have key : ∀ i, i < l.length → (i : Int) ≤ nd l i := by
    intro i
    induction i with
    | zero => intro hi; have := (h 0 hi).1; omega
    | succ i ih => intro hi; have := (h (i + 1) hi).2 (by omega); have := ih (by omega); simp only [Nat.add_sub_cancel] at *; omega
  by_cases e : l.length = 0
  · omega
  · have := key (l.length - 1) (by omega)
    have := (h (l.length - 1) (by omega)).1
    omega
def prinF (a : List (List Int)) (l : List Int) : List (List Int) := matF l.length l.length fun i j => entA a (nd l i).toNat (nd l j).toNat
theorem prin_mat {a : List (List Int)} {l : List Int} (hm : Mat a a.length) (h : OkNodes a.length l) (h0 : l.length ≠ 0) : Mat (prinF a l) (prinF a l).length := by
  have hr := hm.rows
  have hl := h.len
  unfold prinF
  rw [matF_len]
  refine mat_of (by omega) (by omega) fun i j hi hj => ?_
  have h1 := (h i hi).1
  have h2 := (h j hj).1
  exact (ent_val hm (i := (nd l i).toNat) (j := (nd l j).toNat) (by omega) (by omega)).2.2
def prinV (a : List (List Int)) (l : List Int) : Int := bif l.length == 0 then 0 else (topE (prinF a l)).1
theorem prin_read {a : List (List Int)} {l : List Int} (hm : Mat a a.length) (h : OkNodes a.length l) {i j : Nat} (hi : i < l.length) (hj : j < l.length) :
    ∃ r, M.Conv (M.idx a (nd l i)) r ∧ M.Conv (M.idx r (nd l j)) (entA a (nd l i).toNat (nd l j).toNat) := by
  have h1 := (h i hi).1
  have h2 := (h j hj).1
  obtain ⟨r, c1, _, c2⟩ := ent_read hm.shp (i := (nd l i).toNat) (j := (nd l j).toNat) (by omega) (by omega)
  rw [Int.toNat_of_nonneg h1.1] at c1
  rw [Int.toNat_of_nonneg h2.1] at c2
  exact ⟨r, c1, c2⟩
theorem spec_l10Part_ok {a : List (List Int)} {l : List Int} (hm : Mat a a.length) (h : OkNodes a.length l) : M.Conv (spec_l10Part a l) (prinV a l) := by
  have hr := hm.rows
  have hl := h.len
  unfold spec_l10Part prinV
  by_cases h0 : l.length = 0
  · rw [h0]; exact M.Conv_ite (fun _ => M.Conv_ret _) (fun t => by simp at t)
  · rw [show (l.length == 0) = false by simpa using h0]
    refine M.Conv_ite (fun t => by simp at t; exact absurd (by rw [t]; rfl) h0) (fun _ => ?_)
    have hpm := prin_mat hm h h0
    refine M.Conv_bind (spec_l02Bottom_ok (by omega) (by omega)) (M.Conv_bind (x := prinF a l) ?_ (M.Conv_bind (M.Conv_bind (spec_l10Best_ok hpm) (M.Conv_bind (top_reads hpm).1 (M.Conv_ret _))) (M.Conv_ret _)))
    rw [← part_zero (g := fun i j => entA a (nd l i).toNat (nd l j).toNat)]
    refine (Conv_forV (fun i => matF l.length l.length (part (fun i j => entA a (nd l i).toNat (nd l j).toNat) (fun _ _ => -1000000000000000) i 0)) (by omega) fun i hi => ?_).of part_all
    refine M.Conv_bind (Conv_forV (fun j => matF l.length l.length (part (fun i j => entA a (nd l i).toNat (nd l j).toNat) (fun _ _ => -1000000000000000) i j)) (by omega) fun j hj => ?_) ((M.Conv_ret _).of (congrArg Sum.inl part_row))
    obtain ⟨r, c1, c2⟩ := prin_read hm h hi hj
    exact M.Conv_bind (idx_tab hi) (M.Conv_bind (nd_read hi) (M.Conv_bind c1 (M.Conv_bind (nd_read hj) (M.Conv_bind c2 (M.Conv_bind (idx_tab hj) (M.Conv_bind (M.Conv_upd (by rw [tab_len]; exact hj)) ((M.Conv_ret _).of (congrArg Sum.inl part_step))))))))
theorem impl_principal_ok {a : List (List Int)} {l : List Int} (hm : Mat a a.length) (h : OkNodes a.length l) : M.Conv (impl_principal a l) (prinV a l) := by
  have hr := hm.rows
  have hl := h.len
  unfold impl_principal prinV
  by_cases h0 : l.length = 0
  · rw [h0]; exact M.Conv_ite (fun _ => M.Conv_ret _) (fun t => by simp at t)
  · rw [show (l.length == 0) = false by simpa using h0]
    refine M.Conv_ite (fun t => by simp at t; exact absurd (by rw [t]; rfl) h0) (fun _ => ?_)
    have hpm := prin_mat hm h h0
    refine M.Conv_bind (x := prinF a l) ?_ (M.Conv_bind (impl_permanents_ok hpm) (M.Conv_bind (top_reads hpm).2.2.1 (M.Conv_ret _)))
    refine matrixBy_ok (fun i j => impl_principal_1 i j a l) _ (by omega) (by omega) fun i j hi hj => ?_
    obtain ⟨r, c1, c2⟩ := prin_read hm h hi hj
    exact M.Conv_bind (nd_read hi) (M.Conv_bind c1 (M.Conv_bind (nd_read hj) (M.Conv_bind c2 (M.Conv_ret _))))
def bitsL (s : Nat) : Nat → List Int
  | 0 => []
  | m + 1 => bif bitN s m == 1 then bitsL s m ++ [(m : Int)] else bitsL s m
theorem bitsL_len (s : Nat) : ∀ m, (bitsL s m).length ≤ m
  | 0 => by simp [bitsL]
  | m + 1 => by have := bitsL_len s m; unfold bitsL; cases (bitN s m == 1) <;> simp <;> omega
theorem bitsL_ok (s : Nat) : ∀ m, OkNodes m (bitsL s m)
  | 0 => fun i h => by simp [bitsL] at h
  | m + 1 => by
    have ih := bitsL_ok s m
    unfold bitsL
    cases (bitN s m == 1) with
    | false => intro i hi; simp only [cond_false] at hi ⊢; have := ih i hi; exact ⟨⟨this.1.1, by omega⟩, this.2⟩
    | true =>
      intro i hi
      simp only [cond_true, List.length_append, List.length_cons, List.length_nil] at hi ⊢
      have hnd : ∀ k, k < (bitsL s m).length → nd (bitsL s m ++ [(m : Int)]) k = nd (bitsL s m) k := fun k hk => by unfold nd; rw [List.getElem?_append_left hk]
      by_cases e : i < (bitsL s m).length
      · have := ih i e
        rw [hnd i e]
        refine ⟨⟨this.1.1, by omega⟩, fun h0 => ?_⟩
        rw [hnd (i - 1) (by omega)]
        exact this.2 h0
      · obtain rfl : i = (bitsL s m).length := by omega
        have hl : nd (bitsL s m ++ [(m : Int)]) (bitsL s m).length = m := by unfold nd; rw [List.getElem?_append_right (Nat.le_refl _)]; simp
        rw [hl]
        refine ⟨⟨by omega, by omega⟩, fun h0 => ?_⟩
        rw [hnd _ (by omega)]
        have := (ih ((bitsL s m).length - 1) (by omega)).1
        omega
/-- one set of nodes counted in -/
def stepQ (a : List (List Int)) (c : List Int) (s : Nat) : List Int := c.set (a.length - (bitsL s a.length).length) (mx (nd c (a.length - (bitsL s a.length).length)) (prinV a (bitsL s a.length)))
def polyQ (a : List (List Int)) : Nat → List Int
  | 0 => tab (a.length + 1) fun _ => -1000000000000000
  | k + 1 => stepQ a (polyQ a k) k
theorem polyQ_len (a : List (List Int)) : ∀ k, (polyQ a k).length = a.length + 1
  | 0 => tab_len _ _
  | k + 1 => by rw [polyQ, stepQ, List.length_set, polyQ_len a k]
theorem bitsL_zero : ∀ m, bitsL 0 m = []
  | 0 => rfl
  | m + 1 => by rw [bitsL, show (bitN 0 m == 1) = false by simp [bitN], cond_false, bitsL_zero m]
theorem bitsU {s n : Nat} (hs : s < 1024) (hn : n ≤ 10) {f : Int → List Int → M (List Int ⊕ List Int)} (h : ∀ (i : Nat) (t : List Int), i < n → t.length ≤ 10 → M.Conv (f i t) (.inl (bif bitN s i == 1 then t ++ [(i : Int)] else t))) : M.Conv (M.forI 0 (n : Int) (fun s => s) f []) (bitsL s n) :=
  Conv_forV (fun i => bitsL s i) (by omega) fun i hi => by
    have := bitsL_len s i
    exact (h i (bitsL s i) hi (by omega)).of rfl
theorem stepQ_ok {a : List (List Int)} {c : List Int} {s : Nat} (hm : Mat a a.length) (hc : c.length = a.length + 1) :
    M.Conv (M.idx c (w64 ((a.length : Int) - ((bitsL s a.length).length : Int)))) (nd c (a.length - (bitsL s a.length).length)) ∧ M.Conv (M.upd c (w64 ((a.length : Int) - ((bitsL s a.length).length : Int))) (mx (nd c (a.length - (bitsL s a.length).length)) (prinV a (bitsL s a.length)))) (stepQ a c s) := by
  have hr := hm.rows
  have hl := bitsL_len s a.length
  have e : w64 ((a.length : Int) - ((bitsL s a.length).length : Int)) = ((a.length - (bitsL s a.length).length : Nat) : Int) := by rw [w64_eq _ (by omega)]; omega
  rw [e]
  exact ⟨nd_read (by omega), M.Conv_upd (by omega)⟩
theorem same_CharPolynomial (a : List (List Int)) (_ : fitL (fitL inI64) a) (sa : smII a) : Two (spec_CharPolynomial a) (impl_CharPolynomial a) (fun w => smI w.1) := by
  refine same_sq sa (by simp [smI]) fun hs => ?_
  have hm := sq_mat hs
  have hr := hm.rows
  obtain ⟨hshU, hsh, hN, hN1, hwr⟩ := pow_ok (n := a.length) (by omega)
  have hw1 : w64 ((a.length : Int) + 1) = ((a.length + 1 : Nat) : Int) := by rw [w64_eq _ (by omega)]; omega
  rw [hw1, hshU, hsh]
  have hok := fun s => bitsL_ok s a.length
  have hS : M.Conv (spec_l02Bottom 1 ((a.length + 1 : Nat) : Int)) [polyQ a 0] := by
    have := spec_l02Bottom_ok (m := 1) (n := a.length + 1) (by omega) (by omega)
    exact this
  refine Two.left hS (Two.left (M.Conv_get (x := polyQ a 0) (by omega) rfl) (Two.left (x := (polyQ a (2 ^ a.length), ((2 ^ a.length : Nat) : Int))) ?_ ?_))
  · refine conv_up0 (fun k => (polyQ a k, (k : Int))) (n := 2 ^ a.length) (k0 := 0) rfl (by omega) (fun k _ hk => ?_) ?_
    · refine M.Conv_bind (M.Conv_guard (by simpa using hwr)) (M.Conv_ite (fun _ => ?_) (fun t => by have := of_decide_eq_false t; simp only at this; omega))
      refine M.Conv_bind (bitsU (s := k) (by omega) (by omega) fun i t hi ht => ?_) ?_
      · have hb := bit_ok (s := k) (j := i) (by omega) (by omega)
        refine M.Conv_bind (M.Conv_guard (by rw [hb.wrapU]; simp)) (M.Conv_bind (x := bif bitN k i == 1 then t ++ [(i : Int)] else t) ?_ (M.Conv_ret _))
        rw [hb.andU]
        refine M.Conv_ite (fun q => M.Conv_bind (M.Conv_app (by simp; omega)) ((M.Conv_ret _).of ?_)) (fun q => (M.Conv_ret _).of ?_)
        · rw [show (bitN k i == 1) = true by simp at q ⊢; omega]; rfl
        · rw [show (bitN k i == 1) = false by simp at q ⊢; omega]; rfl
      · obtain ⟨r1, r2⟩ := stepQ_ok (s := k) hm (polyQ_len a k)
        refine M.Conv_bind r1 (M.Conv_bind (spec_l10Part_ok hm (hok k)) (M.Conv_bind r1 (M.Conv_bind r2 ((M.Conv_ret _).of ?_))))
        rw [w64_eq _ (by simp only; omega)]; rfl
    · refine M.Conv_bind (M.Conv_guard (by simpa using hwr)) (M.Conv_ite (fun t => by have := of_decide_eq_true t; simp only at this; omega) (fun _ => M.Conv_ret _))
  · have h1 : polyQ a 1 = tab (a.length + 1) (fun p => bif decide (p < a.length) then -1000000000000000 else 0) := by
      have hnd : nd (tab (a.length + 1) fun _ => (-1000000000000000 : Int)) a.length = -1000000000000000 := by unfold nd; rw [tab_get (by omega)]; rfl
      rw [polyQ, stepQ, bitsL_zero, polyQ]
      simp only [List.length_nil, Nat.sub_zero]
      rw [hnd]
      refine tab_set ?_ ?_
      · simp [prinV, mx]
      · intro p hp hne
        rw [decide_eq_true (show p < a.length by omega)]; rfl
    refine Two.right ((M.Conv_make (by omega) (by omega)).of (r' := tab (a.length + 1) fun p => bif decide (p < 0) then -1000000000000000 else 0) ?_) (Two.right (x := polyQ a 1) ?_ (Two.right (x := (polyQ a (2 ^ a.length), ((2 ^ a.length : Nat) : Int))) ?_ ?_))
    · rw [Int.toNat_natCast, tab_rep]; exact tab_congr fun p _ => by simp
    · rw [h1]
      refine Conv_forV (fun i => tab (a.length + 1) fun p => bif decide (p < i) then (-1000000000000000 : Int) else 0) (by omega) fun i hi => ?_
      refine M.Conv_bind (idx_tab (by omega)) (M.Conv_bind (upd_tab (by omega) ?_ ?_) (M.Conv_ret _))
      · simp
      · intro p hp hne
        congr 1
        rw [Bool.eq_iff_iff]; simp; omega
    · refine conv_up0 (fun k => (polyQ a k, (k : Int))) (n := 2 ^ a.length) (k0 := 1) rfl (by omega) (fun k hk1 hk => ?_) ?_
      · refine M.Conv_bind (M.Conv_guard (by simp)) (M.Conv_ite (fun _ => ?_) (fun t => by have := of_decide_eq_false t; simp only at this; omega))
        refine M.Conv_bind (bitsU (s := k) (by omega) (by omega) fun i t hi ht => ?_) ?_
        · have hb := bit_ok (s := k) (j := i) (by omega) (by omega)
          refine M.Conv_bind (M.Conv_guard (by simp)) (M.Conv_bind (x := bif bitN k i == 1 then t ++ [(i : Int)] else t) ?_ (M.Conv_ret _))
          rw [hb.and]
          refine M.Conv_ite (fun q => M.Conv_bind (M.Conv_app (by simp; omega)) ((M.Conv_ret _).of ?_)) (fun q => (M.Conv_ret _).of ?_)
          · rw [show (bitN k i == 1) = true by simp at q ⊢; omega]; rfl
          · rw [show (bitN k i == 1) = false by simp at q ⊢; omega]; rfl
        · obtain ⟨r1, r2⟩ := stepQ_ok (s := k) hm (polyQ_len a k)
          refine M.Conv_bind r1 (M.Conv_bind (impl_principal_ok hm (hok k)) (M.Conv_bind r1 (M.Conv_bind r2 ((M.Conv_ret _).of ?_))))
          rw [w64_eq _ (by simp only; omega)]; rfl
      · refine M.Conv_bind (M.Conv_guard (by simp)) (M.Conv_ite (fun t => by have := of_decide_eq_true t; simp only at this; omega) (fun _ => M.Conv_ret _))
    · have hl := polyQ_len a (2 ^ a.length)
      have hge : ∀ k, 1 ≤ k → 0 ≤ nd (polyQ a k) a.length := by
        intro k
        induction k with
        | zero => intro h; omega
        | succ k ih =>
          intro _
          by_cases e : k = 0
          · subst e; rw [h1]; unfold nd; rw [tab_get (by omega)]; simp
          · have hI := ih (by omega)
            rw [polyQ, stepQ]
            unfold nd at hI ⊢
            rw [List.getElem?_set]
            by_cases q : a.length - (bitsL k a.length).length = a.length
            · rw [if_pos q, if_pos (by rw [polyQ_len]; omega)]
              simp only [Option.getD_some]
              rw [mx_eq, q]
              have := hI
              omega
            · rw [if_neg q]; exact hI
      have hany : (polyQ a (2 ^ a.length)).any (· != (-1000000000000000)) = true := by
        have := hge (2 ^ a.length) hN1
        have hg : (polyQ a (2 ^ a.length))[a.length]? = some ((polyQ a (2 ^ a.length))[a.length]'(by omega)) := List.getElem?_eq_getElem _
        unfold nd at this
        rw [hg, Option.getD_some] at this
        rw [List.any_eq_true]
        exact ⟨_, List.mem_of_getElem? hg, by simp; omega⟩
      have hpb : polyB (polyQ a (2 ^ a.length)) = (polyQ a (2 ^ a.length)).all valB := by
        unfold polyB
        rw [hany, decide_eq_true (by omega)]; simp
      refine Two.left (spec_IsPolynomial_ok (by simp only; omega)) (Two.right (impl_checkedVector_ok (by simp only; omega)) ?_)
      simp only
      rw [hpb]
      cases (polyQ a (2 ^ a.length)).all valB with
      | false => exact Two.iteL (fun _ => Two.ret _ (by simp [smI])) (fun t => by simp at t)
      | true => exact Two.iteL (fun t => by simp at t) (fun _ => Two.ret _ (by simp only [smI]; omega))

theorem FnExactCharPolynomial_ok (aA : List (List Int)) (gaA : fitL (fitL inI64) aA) : M.Conv (laws_FnExactCharPolynomial aA) true := by
  unfold laws_FnExactCharPolynomial
  obtain ⟨zaA, hzaA, ssaA⟩ := szII_ok gaA
  refine M.Conv_bind hzaA ?_
  refine M.Conv_ite (fun _ => M.Conv_ret _) (fun qaA => ?_)
  have saA := ssaA qaA
  have nzaA := of_decide_eq_false qaA
  refine M.Conv_bind (toII_ok saA) ?_
  obtain ⟨w, hS, hI, hw⟩ := same_CharPolynomial aA gaA saA
  refine M.Conv_bind hS ?_
  refine M.Conv_bind (toII_ok saA) ?_
  refine M.Conv_bind hI ?_
  refine M.Conv_bind (eqI_refl hw) ?_
  refine M.Conv_ite (fun q => ?_) (fun _ => ?_)
  · exfalso; revert q; simp
  refine M.Conv_bind (toII_ok saA) ?_
  refine M.Conv_bind (eqII_refl saA) ?_
  refine M.Conv_ite (fun q => ?_) (fun _ => ?_)
  · exfalso; revert q; simp
  obtain ⟨k1, mk1, hmk1, lek1, gek1, _, hek1⟩ := markII_ok saA _ (show (0 : Int) ≤ 1 by omega) (by omega)
  refine M.Conv_bind hmk1 ?_
  refine M.Conv_bind (x := false) (M.Conv_ite (fun q => ?_) (fun _ => M.Conv_bind (eqI_refl hw) (M.Conv_ret _))) ?_
  · exfalso; revert q; simp; omega
  refine M.Conv_ite (fun q => ?_) (fun _ => ?_)
  · exfalso; revert q; simp
  obtain ⟨k2, mk2, hmk2, lek2, gek2, _, hek2⟩ := markI_ok hw _ (show (0 : Int) ≤ 1 by omega) (by omega)
  refine M.Conv_bind hmk2 ?_
  refine M.Conv_bind hek2 ?_
  refine M.Conv_ite (fun q => ?_) (fun _ => ?_)
  · exfalso; revert q; simp; try omega
  refine M.Conv_ite (fun q => ?_) (fun _ => ?_)
  · exfalso; revert q; simp; try omega
  refine M.Conv_bind (toII_ok saA) ?_
  refine M.Conv_bind hI ?_
  refine M.Conv_bind (eqI_refl hw) ?_
  refine M.Conv_ite (fun q => ?_) (fun _ => ?_)
  · exfalso; revert q; simp; try omega
  refine M.Conv_bind hek2 ?_
  refine M.Conv_ite (fun q => ?_) (fun _ => ?_)
  · exfalso; revert q; simp; try omega
  refine M.Conv_ite (fun q => ?_) (fun _ => ?_)
  · exfalso; revert q; simp; try omega
  exact M.Conv_ret _

end Go.Proofs.Ytfhndofgglohoaa
