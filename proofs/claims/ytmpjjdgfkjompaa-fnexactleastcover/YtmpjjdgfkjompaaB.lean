/-
  Plain proofs: the plain program of the law ends with true.
  Conditions: None beyond the given statement.
-/
import Derived.Test.YtmpjjdgfkjompaaP
namespace Go.Proofs.Ytmpjjdgfkjompaa
open Go
/-! ### plain programs: loops over a list -/
namespace M
variable {α β σ ρ : Type}
/-- rounds over the elements of a list, each with its place; a round may leave -/
def run (g : Nat → α → σ → σ ⊕ ρ) (fin : σ → ρ) : Nat → List α → σ → ρ
  | _, [], s => fin s
  | i, x :: xs, s => match g i x s with
    | .inl s' => run g fin (i + 1) xs s'
    | .inr r => r
theorem Conv_forN {l : List α} {f : Int → σ → M (σ ⊕ ρ)} (g : Nat → α → σ → σ ⊕ ρ) (fin : σ → ρ) (I : Nat → σ → Prop) (hi : Int) :
    ∀ (xs : List α) (i : Nat) (s : σ), hi = (i + xs.length : Nat) → I i s → (∀ (j : Nat) x s, xs[j]? = some x → I (i + j) s → Conv (f (i + j : Nat) s) (g (i + j) x s) ∧ ∀ s', g (i + j) x s = .inl s' → I (i + j + 1) s') →
      ∃ N, ∀ n, N ≤ n → forN hi fin f n xs.length i s = some (run g fin i xs s)
  | [], i, s, hh, _, _ => ⟨0, fun n _ => by
      have : ¬ (i : Int) < hi := by rw [hh]; simp
      simp [forN, run, this]⟩
  | x :: xs, i, s, hh, h0, H => by
    have hlt : (i : Int) < hi := by rw [hh]; simp; omega
    obtain ⟨⟨N, hN⟩, hI⟩ := H 0 x s rfl h0
    simp only [Nat.add_zero] at hN hI
    cases hg : g i x s with
    | inl s' =>
      have hi' := hI s' hg
      obtain ⟨N', hN'⟩ := Conv_forN (l := l) g fin I hi xs (i + 1) s' (by rw [hh, List.length_cons]; congr 1; omega) hi' (fun j y s hy hIs => by
        have := H (j + 1) y s (by simpa using hy) (by rw [← Nat.add_assoc, Nat.add_right_comm]; exact hIs)
        rw [show i + (j + 1) = i + 1 + j by omega] at this
        exact this)
      refine ⟨max N N', fun n hn => ?_⟩
      have h1 := hN n (by omega)
      rw [hg] at h1
      simp only [List.length_cons, forN, hlt, decide_true, cond_true, h1, run, hg]
      have := hN' n (by omega)
      simpa using this
    | inr r =>
      refine ⟨N, fun n hn => ?_⟩
      have h1 := hN n hn
      rw [hg] at h1
      simp only [List.length_cons, forN, hlt, decide_true, cond_true, h1, run, hg]
/-- a loop over a list, with an invariant -/
theorem Conv_forI {l : List α} {f : Int → σ → M (σ ⊕ ρ)} {fin : σ → ρ} {s : σ} (g : Nat → α → σ → σ ⊕ ρ) (I : Nat → σ → Prop) (hl : l.length ≤ 9223372036854775807) (h0 : I 0 s)
    (H : ∀ (i : Nat) x s, l[i]? = some x → I i s → Conv (f i s) (g i x s) ∧ ∀ s', g i x s = .inl s' → I (i + 1) s') : Conv (forI 0 (l.length : Int) fin f s) (run g fin 0 l s) := by
  obtain ⟨N, hN⟩ := Conv_forN (l := l) (f := f) g fin I (l.length : Int) l 0 s (by simp) h0 (fun j x s hx hI => by simpa using H j x s hx (by simpa using hI))
  refine ⟨N, fun n hn => ?_⟩
  have h1 : (l.length : Int) ≤ 9223372036854775807 := by omega
  simp only [forI, h1, decide_true, Bool.and_true, show (-9223372036854775808 : Int) ≤ 0 by decide, cond_true]
  have := hN n hn
  simpa using this
/-- .. without one -/
theorem Conv_forL {l : List α} {f : Int → σ → M (σ ⊕ ρ)} {fin : σ → ρ} {s : σ} (g : Nat → α → σ → σ ⊕ ρ) (hl : l.length ≤ 9223372036854775807)
    (H : ∀ (i : Nat) x s, l[i]? = some x → Conv (f i s) (g i x s)) : Conv (forI 0 (l.length : Int) fin f s) (run g fin 0 l s) :=
  Conv_forI g (fun _ _ => True) hl trivial fun i x s hx _ => ⟨H i x s hx, fun _ _ => trivial⟩
theorem Conv.of {m : M α} {r r' : α} (h : Conv m r) (e : r = r') : Conv m r' := e ▸ h
theorem Conv_ite {b : Bool} {x y : M α} {r : α} (h1 : b = true → Conv x r) (h2 : b = false → Conv y r) : Conv (ite b x y) r := by
  cases b
  · exact h2 rfl
  · exact h1 rfl
theorem Conv_ite2 {b : Bool} {x y : M α} {r s : α} (h1 : b = true → Conv x r) (h2 : b = false → Conv y s) : Conv (ite b x y) (bif b then r else s) := by
  cases b
  · exact h2 rfl
  · exact h1 rfl
theorem Conv_guard {b : Bool} (h : b = true) : Conv (guard b) () := ⟨0, fun _ _ => by simp [guard, h]⟩
theorem Conv_upd {l : List α} {i : Nat} {x : α} (h : i < l.length) : Conv (upd l i x) (l.set i x) := ⟨0, fun _ _ => by simp [upd, h]⟩
theorem Conv_get {l : List α} {i : Int} {x : α} (h0 : 0 ≤ i) (h : l[i.toNat]? = some x) : Conv (idx l i) x := ⟨0, fun _ _ => by simp [idx, h0, h]⟩
/-- a value told in both ways of a test, then the rest -/
theorem Conv_bite {b : Bool} {x y : M α} {f : α → M β} {u v : α} {r : β} (h1 : b = true → Conv x u) (h2 : b = false → Conv y v) (g : Conv (f (bif b then u else v)) r) : Conv (bind (ite b x y) f) r :=
  Conv_bind (Conv_ite2 h1 h2) g

/-! searches: a loop that leaves at the first element of a kind -/
theorem run_all (p : α → Bool) (u : Unit ⊕ ρ) : ∀ (i : Nat) (l : List α), run (ρ := Unit ⊕ ρ) (fun _ x _ => bif p x then .inl () else .inr u) (fun s => .inl s) i l () = bif l.all p then .inl () else u
  | _, [] => rfl
  | i, x :: xs => by
    simp only [run, List.all_cons]
    cases p x
    · rfl
    · simpa using run_all p u (i + 1) xs
/-- 'for .. if not p x, return v' -/
theorem Conv_all {l : List α} {f : Int → Unit → M (Unit ⊕ (Unit ⊕ ρ))} (p : α → Bool) (v : ρ) (hl : l.length ≤ 9223372036854775807) (H : ∀ (i : Nat) x, l[i]? = some x → Conv (f i ()) (bif p x then .inl () else .inr (.inr v))) :
    Conv (forI 0 (l.length : Int) (fun s => .inl s) f ()) (bif l.all p then .inl () else .inr v) :=
  (Conv_forL (fun _ x _ => bif p x then .inl () else .inr (.inr v)) hl fun i x _ hx => H i x hx).of (run_all p (.inr v) 0 l)
/-- the same, where the element's place matters to the test -/
theorem run_allI (p : Nat → α → Bool) (u : Unit ⊕ ρ) : ∀ (i : Nat) (l : List α), run (ρ := Unit ⊕ ρ) (fun j x _ => bif p j x then .inl () else .inr u) (fun s => .inl s) i l () = bif (l.zipIdx i).all (fun q => p q.2 q.1) then .inl () else u
  | _, [] => rfl
  | i, x :: xs => by
    simp only [run, List.zipIdx_cons, List.all_cons]
    cases p i x
    · rfl
    · simpa using run_allI p u (i + 1) xs
theorem Conv_allI {l : List α} {f : Int → Unit → M (Unit ⊕ (Unit ⊕ ρ))} (p : Nat → α → Bool) (v : ρ) (hl : l.length ≤ 9223372036854775807) (H : ∀ (i : Nat) x, l[i]? = some x → Conv (f i ()) (bif p i x then .inl () else .inr (.inr v))) :
    Conv (forI 0 (l.length : Int) (fun s => .inl s) f ()) (bif (l.zipIdx 0).all (fun q => p q.2 q.1) then .inl () else .inr v) :=
  (Conv_forL (fun j x _ => bif p j x then .inl () else .inr (.inr v)) hl fun i x _ hx => H i x hx).of (run_allI p (.inr v) 0 l)
/-- 'for i .. if p x, return i' -/
theorem run_find (p : α → Bool) : ∀ (i : Nat) (l : List α), run (σ := Unit) (ρ := Unit ⊕ Int) (fun j x _ => bif p x then .inr (.inr (j : Int)) else .inl ()) (fun s => .inl s) i l () = match l.findIdx? p with
    | some j => .inr ((i + j : Nat) : Int)
    | none => .inl ()
  | _, [] => rfl
  | i, x :: xs => by
    simp only [run, List.findIdx?_cons]
    cases hp : p x
    · simp only [cond_false, run_find p (i + 1) xs, Bool.false_eq_true, if_false]
      cases xs.findIdx? p with
      | none => rfl
      | some j => simp only [Option.map_some]; congr 2; omega
    · simp
theorem Conv_find {l : List α} {f : Int → Unit → M (Unit ⊕ (Unit ⊕ Int))} (p : α → Bool) (hl : l.length ≤ 9223372036854775807) (H : ∀ (i : Nat) x, l[i]? = some x → Conv (f i ()) (bif p x then .inr (.inr (i : Int)) else .inl ())) :
    Conv (forI 0 (l.length : Int) (fun s => .inl s) f ()) (match l.findIdx? p with | some j => .inr (j : Int) | none => .inl ()) :=
  (Conv_forL (fun j x _ => bif p x then .inr (.inr (j : Int)) else .inl ()) hl fun i x _ hx => H i x hx).of (by rw [run_find]; simp)
/-- sums: each round turns what has been gathered -/
theorem run_fold (g : σ → α → σ) : ∀ (i : Nat) (l : List α) (s : σ), run (fun _ x s => .inl (g s x)) (fun s => s) i l s = l.foldl g s
  | _, [], _ => rfl
  | i, x :: xs, s => by simpa [run] using run_fold g (i + 1) xs (g s x)
theorem Conv_fold {l : List α} {f : Int → σ → M (σ ⊕ σ)} {s : σ} (g : σ → α → σ) (hl : l.length ≤ 9223372036854775807) (H : ∀ (i : Nat) x s, l[i]? = some x → Conv (f i s) (.inl (g s x))) :
    Conv (forI 0 (l.length : Int) (fun s => s) f s) (l.foldl g s) :=
  (Conv_forL (fun _ x s => .inl (g s x)) hl fun i x s hx => H i x s hx).of (run_fold g 0 l s)
theorem get_set_append {l r : List α} {x y : α} : (l ++ y :: r).set l.length x = l ++ x :: r := by simp
/-- a loop that fills a list of the same length, element by element -/
theorem run_fill (g : Nat → α → β) (z : β) : ∀ (i : Nat) (l : List α) (d : List β), d.length = i →
    run (fun j x s => .inl (s.set j (g j x))) (fun s => s) i l (d ++ List.replicate l.length z) = d ++ (l.zipIdx i).map (fun q => g q.2 q.1)
  | _, [], d, _ => by simp [run]
  | i, x :: xs, d, hd => by
    subst hd
    simp only [run, List.length_cons, List.replicate_succ, get_set_append]
    have := run_fill g z (d.length + 1) xs (d ++ [g d.length x]) (by simp)
    simp only [List.append_assoc, List.singleton_append] at this
    rw [this]
    simp
theorem Conv_fill {l : List α} {f : Int → List β → M (List β ⊕ List β)} (g : Nat → α → β) (z : β) (hl : l.length ≤ 9223372036854775807)
    (H : ∀ (i : Nat) x s, l[i]? = some x → s.length = l.length → Conv (f i s) (.inl (s.set i (g i x)))) :
    Conv (forI 0 (l.length : Int) (fun s => s) f (List.replicate l.length z)) ((l.zipIdx 0).map (fun q => g q.2 q.1)) := by
  refine (Conv_forI (fun j x s => .inl (s.set j (g j x))) (fun _ s => s.length = l.length) hl (by simp) fun i x s hx hI => ⟨H i x s hx hI, fun s' e => ?_⟩).of ?_
  · cases e; simpa using hI
  · simpa using run_fill g z 0 l [] rfl
theorem zipIdx_map_fst {l : List α} {g : α → β} {i : Nat} : ((l.zipIdx i).map fun q => g q.1) = l.map g := by
  have h : List.map (g ∘ Prod.fst) (l.zipIdx i) = List.map g l := by rw [← List.map_map, List.zipIdx_map_fst]
  exact h
theorem findIdx_any {l : List α} {p : α → Bool} : (decide ((0:Int) ≤ match l.findIdx? p with | some j => (j : Int) | none => -1)) = l.any p := by
  cases h : l.findIdx? p with
  | none => rw [List.findIdx?_eq_none_iff] at h; simp; exact fun x hx => by simpa using h x hx
  | some j =>
    obtain ⟨hj, hp, _⟩ := List.findIdx?_eq_some_iff_getElem.1 h
    simp
    exact ⟨_, List.getElem_mem hj, hp⟩
end M
def finB (x : Int) : Bool := decide (-1000000 ≤ x) && decide (x ≤ 1000000)
def valB (x : Int) : Bool := x == (-1000000000000000) || finB x
theorem toInt64S_ok {a : List Int} (h : a.length ≤ 1099511627776) : M.Conv (laws_toInt64S a) a := by
  unfold laws_toInt64S
  refine M.Conv_bind (M.Conv_make (by omega) (by omega)) ?_
  refine M.Conv_bind (x := a) (((M.Conv_fill (l := a) (f := _) (fun _ x => x) 0 (by omega) fun i x s hx hs => ?_)).of ?_) (M.Conv_ret _)
  · have hi := (List.getElem?_eq_some_iff.1 hx).1
    refine M.Conv_bind (M.Conv_get (by omega) (by simpa using hx)) ?_
    refine M.Conv_bind (M.Conv_get (x := s[i]) (by omega) (by simp [show i < s.length by omega])) ?_
    exact M.Conv_bind (M.Conv_upd (by omega)) (M.Conv_ret _)
  · exact M.zipIdx_map_fst.trans (List.map_id' _)
theorem eqInt64S_ok {a b : List Int} (ha : a.length ≤ 9223372036854775807) : M.Conv (laws_eqInt64S a b) (decide (a = b)) := by
  unfold laws_eqInt64S
  refine M.Conv_ite (fun h => ?_) (fun h => ?_)
  · have : a ≠ b := by rintro rfl; simp at h
    rw [decide_eq_false this]; exact M.Conv_ret _
  · have hl : a.length = b.length := Int.ofNat.inj (by simpa using h)
    refine M.Conv_bind (M.Conv_allI (fun i x => b[i]? == some x) false ha fun i x hx => ?_) ?_
    · have hi := (List.getElem?_eq_some_iff.1 hx).1
      refine M.Conv_bind (M.Conv_get (by omega) (by simpa using hx)) ?_
      refine M.Conv_bind (M.Conv_get (x := b[i]) (by omega) (by simp [show i < b.length by omega])) ?_
      have hb : (b[i]? == some x) = !(x != b[i]) := by rw [List.getElem?_eq_getElem (by omega), bne, Bool.not_not, Option.some_beq_some, BEq.comm]
      rw [hb]
      cases (x != b[i]) <;> exact M.Conv_ret _
    · have key : ((a.zipIdx 0).all fun q => b[q.2]? == some q.1) = decide (a = b) := by
        by_cases e : a = b
        · subst e
          rw [decide_eq_true rfl, List.all_eq_true]
          rintro ⟨x, i⟩ hq
          have := List.mk_mem_zipIdx_iff_getElem?.1 hq
          simp [this]
        · rw [decide_eq_false e, Bool.eq_false_iff]
          intro h
          apply e
          rw [List.all_eq_true] at h
          refine List.ext_getElem hl fun i h1 h2 => ?_
          have := h (a[i], i) (List.mk_mem_zipIdx_iff_getElem?.2 (List.getElem?_eq_getElem h1))
          simp [h2] at this
          exact this.symm
      rw [key]
      cases decide (a = b) <;> exact M.Conv_ret _
theorem spec_l01In_ok (x lo hi : Int) : M.Conv (spec_l01In x lo hi) (decide (lo ≤ x) && decide (x ≤ hi)) := M.Conv_ret _
theorem spec_l01Finite_ok (x : Int) : M.Conv (spec_l01Finite x) (finB x) := M.Conv_bind (spec_l01In_ok _ _ _) (M.Conv_ret _)
theorem spec_IsValue_ok (x : Int) : M.Conv (spec_IsValue x) (valB x) := by
  unfold spec_IsValue
  refine M.Conv_bind (M.Conv_ite (r := valB x) (fun h => ?_) (fun h => ?_)) (M.Conv_ret _)
  · simp only [valB, h, Bool.true_or]; exact M.Conv_ret _
  · simp only [valB, h, Bool.false_or]; exact M.Conv_bind (spec_l01Finite_ok x) (M.Conv_ret _)
theorem spec_l01All_ok {l : List Int} (f : Bool) (hl : l.length ≤ 9223372036854775807) : M.Conv (spec_l01All l f) (l.all fun x => valB x && !(f && x == (-1000000000000000))) := by
  unfold spec_l01All
  refine M.Conv_bind (M.Conv_all (fun x => valB x && !(f && x == (-1000000000000000))) false hl fun i x hx => ?_) ?_
  · refine M.Conv_bind (M.Conv_get (by omega) (by simpa using hx)) (M.Conv_bind (spec_IsValue_ok x) ?_)
    refine M.Conv_bind (x := !(valB x && !(f && x == (-1000000000000000)))) (M.Conv_ite (fun h => ?_) (fun h => ?_)) ?_
    · simp at h; simp [h]; exact M.Conv_ret _
    · simp at h
      refine M.Conv_bind (x := (f && x == (-1000000000000000))) (M.Conv_ite (fun h => ?_) (fun h => ?_)) (by simp [h]; exact M.Conv_ret _)
      · simp [h]; exact M.Conv_bind (M.Conv_get (by omega) (by simpa using hx)) (M.Conv_ret _)
      · simp [h]; exact M.Conv_ret _
    · cases (valB x && !(f && x == (-1000000000000000))) <;> exact M.Conv_ret _
  · cases (l.all fun x => valB x && !(f && x == (-1000000000000000))) <;> exact M.Conv_ret _
theorem impl_within_ok (x lo hi : Int) : M.Conv (impl_within x lo hi) (decide (lo ≤ x) && decide (x ≤ hi)) := M.Conv_ret _
theorem impl_isFinite_ok (x : Int) : M.Conv (impl_isFinite x) (finB x) := M.Conv_bind (impl_within_ok _ _ _) (M.Conv_ret _)
theorem impl_IsValue_ok (x : Int) : M.Conv (impl_IsValue x) (valB x) := by
  unfold impl_IsValue
  refine M.Conv_bind (M.Conv_ite (r := valB x) (fun h => ?_) (fun h => ?_)) (M.Conv_ret _)
  · simp only [valB, h, Bool.true_or]; exact M.Conv_ret _
  · simp only [valB, h, Bool.false_or]; exact M.Conv_bind (impl_isFinite_ok x) (M.Conv_ret _)
/-- 'slices.ContainsFunc', behind 'slices.IndexFunc' -/
theorem contains_ok {α : Type} {l : List α} {f : Int → Unit → M (Unit ⊕ (Unit ⊕ Int))} (p : α → Bool) (hl : l.length ≤ 9223372036854775807) (H : ∀ (i : Nat) x, l[i]? = some x → M.Conv (f i ()) (bif p x then .inr (.inr (i : Int)) else .inl ())) :
    M.Conv (M.bind (M.bind (M.forI 0 (l.length : Int) (fun s => .inl s) f ()) (fun x1 => M.cont x1 (fun _ => M.ret (-1)) (fun r => M.ret r))) (fun x1 => M.ret (decide (0 ≤ x1)))) (l.any p) := by
  rw [← M.findIdx_any]
  refine M.Conv_bind (M.Conv_bind (M.Conv_find p hl H) ?_) (M.Conv_ret _)
  cases l.findIdx? p <;> exact M.Conv_ret _
theorem any_not {α : Type} {l : List α} {p : α → Bool} : (!l.any fun x => !p x) = l.all p := by
  induction l with
  | nil => rfl
  | cons x xs ih => simp only [List.any_cons, List.all_cons, Bool.not_or, Bool.not_not, ih]
theorem impl_areValues_ok {l : List Int} (hl : l.length ≤ 9223372036854775807) : M.Conv (impl_areValues l) (l.all valB) := by
  unfold impl_areValues slices_ContainsFunc_int_F_impl_areValues_1 slices_IndexFunc_int_F_impl_areValues_1
  refine M.Conv_bind (contains_ok (fun x => !valB x) hl fun i x hx => ?_) ((M.Conv_ret _).of any_not)
  refine M.Conv_bind (M.Conv_get (by omega) (by simpa using hx)) ?_
  refine M.Conv_bind (x := !valB x) (M.Conv_bind (impl_IsValue_ok x) (M.Conv_ret _)) ?_
  cases valB x <;> exact M.Conv_ret _
def smI (l : List Int) : Prop := l.length ≤ 1099511627776
theorem toI_ok {a : List Int} (h : smI a) : M.Conv (laws_toInt64S a) a := toInt64S_ok h
theorem eqI_refl {a : List Int} (h : smI a) : M.Conv (laws_eqInt64S a a) true := (eqInt64S_ok (by unfold smI at h; omega)).of (by simp)
/-- marks: element i becomes e (k + w * i) -/
theorem Conv_mark {α : Type} {l : List α} {f : Int → List α × Int → M ((List α × Int) ⊕ (List α × Int))} (w : Int) (e : Int → α) (k : Int) (hl : l.length ≤ 9223372036854775807)
    (H : ∀ (i : Nat) (s : List α), i < l.length → s.length = l.length → M.Conv (f i (s, k + w * i)) (.inl (s.set i (e (k + w * i)), k + w * (i + 1)))) :
    M.Conv (M.forI 0 (l.length : Int) (fun s => s) f (l, k)) ((List.range l.length).map (fun (i : Nat) => e (k + w * i)), k + w * l.length) := by
  refine (M.Conv_forI (l := l) (fun i _ s => .inl (s.1.set i (e (k + w * i)), k + w * (i + 1))) (fun i s => s.1.length = l.length ∧ s.2 = k + w * i) hl ⟨rfl, by simp⟩ fun i x s hx hI => ?_).of ?_
  · obtain ⟨s, q⟩ := s
    obtain ⟨h1, h2⟩ := hI
    simp only at h1 h2
    subst h2
    refine ⟨H i s (List.getElem?_eq_some_iff.1 hx).1 h1, fun s' es => ?_⟩
    cases es
    exact ⟨by simpa using h1, by simp⟩
  · have key : ∀ (xs : List α) (i : Nat) (d : List α), d.length = i → M.run (ρ := List α × Int) (fun i _ s => .inl (s.1.set i (e (k + w * i)), k + w * ((i : Int) + 1))) (fun s => s) i xs (d ++ xs, k + w * i) = (d ++ (List.range xs.length).map (fun (j : Nat) => e (k + w * (i + j : Nat))), k + w * (i + xs.length : Nat)) := by
      intro xs
      induction xs with
      | nil => intro i d hd; simp [M.run]
      | cons x xs ih =>
        intro i d hd
        subst hd
        simp only [M.run]
        have := ih (d.length + 1) (d ++ [e (k + w * d.length)]) (by simp)
        rw [show (d ++ x :: xs).set d.length (e (k + w * d.length)) = d ++ [e (k + w * d.length)] ++ xs by simp]
        rw [show ((d.length : Int) + 1) = ((d.length + 1 : Nat) : Int) by omega, this]
        simp only [List.length_cons, List.range_succ_eq_map, List.map_cons, List.map_map, List.append_assoc, List.singleton_append, Prod.mk.injEq, List.append_cancel_left_eq, List.cons.injEq]
        refine ⟨⟨by simp, List.map_congr_left fun j _ => ?_⟩, by congr 2; omega⟩
        simp only [Function.comp]
        congr 3; omega
    have := key l 0 [] rfl
    simpa using this
theorem Conv_held {α : Type} {l : List α} {f : Int → Int → M (Int ⊕ (Int ⊕ Int))} (w k : Int) (hl : l.length ≤ 9223372036854775807) (H : ∀ (i : Nat) x, l[i]? = some x → M.Conv (f i (k + w * i)) (.inl (k + w * (i + 1)))) :
    M.Conv (M.forI 0 (l.length : Int) (fun s => .inl s) f k) (.inl (k + w * l.length)) := by
  refine (M.Conv_forI (l := l) (fun i _ _ => .inl (k + w * (i + 1))) (fun i s => s = k + w * i) hl (by simp) fun i x s hx hI => ?_).of ?_
  · subst hI
    exact ⟨H i x hx, fun s' es => by cases es; simp⟩
  · have key : ∀ (xs : List α) (i : Nat), M.run (σ := Int) (ρ := Int ⊕ Int) (fun i _ _ => .inl (k + w * ((i : Int) + 1))) (fun s => .inl s) i xs (k + w * i) = .inl (k + w * (i + xs.length : Nat)) := by
      intro xs
      induction xs with
      | nil => intro i; simp [M.run]
      | cons x xs ih =>
        intro i
        simp only [M.run, List.length_cons]
        rw [show ((i : Int) + 1) = ((i + 1 : Nat) : Int) by omega, ih (i + 1)]
        congr 3; omega
    have := key l 0
    simpa using this
theorem markI_ok {a : List Int} (h : smI a) (k : Int) (h0 : 0 ≤ k) (hk : k ≤ 2305843009213693952) :
    ∃ (k' : Int) (a' : List Int), M.Conv (laws_markInt64S a k) (k', a') ∧ k ≤ k' ∧ k' ≤ k + 1099511627776 ∧ a'.length = a.length ∧ M.Conv (laws_heldInt64S a' k) k' := by
  unfold smI at h
  refine ⟨k + 1 * a.length, (List.range a.length).map (fun (i : Nat) => k + 1 * (i : Int)), ?_, by omega, by omega, by simp, ?_⟩
  · unfold laws_markInt64S
    refine M.Conv_bind (Conv_mark 1 (fun x => x) k (by omega) fun i s hi hs => ?_) (M.Conv_ret _)
    refine M.Conv_bind (M.Conv_get (x := s[i]) (by omega) (by simp [show i < s.length by omega])) (M.Conv_bind (M.Conv_upd (show i < s.length by omega)) ((M.Conv_ret _).of ?_))
    rw [w64_eq _ (by omega)]
    congr 2; omega
  · unfold laws_heldInt64S
    have hl : ((List.range a.length).map fun i : Nat => k + 1 * (i : Int)).length = a.length := by simp
    refine M.Conv_bind (Conv_held 1 k (by rw [hl]; omega) fun i x hx => ?_) ((M.Conv_ret _).of (by rw [hl]))
    have hi := (List.getElem?_eq_some_iff.1 hx).1
    rw [hl] at hi
    have ex : x = k + 1 * i := by simp [hi] at hx; omega
    refine M.Conv_bind (M.Conv_get (by omega) (by simpa using hx)) (M.Conv_ite (fun q => by simp [ex] at q) (fun _ => (M.Conv_ret _).of ?_))
    rw [w64_eq _ (by omega)]
    congr 1; omega

theorem finB_bd {x : Int} (h : finB x = true) : -1000000 ≤ x ∧ x ≤ 1000000 := by simpa [finB] using h
theorem val_ne {x : Int} (h : valB x = true) (hn : (x == (-1000000000000000)) = false) : finB x = true := by simpa [valB, hn] using h
/-- two programs, one answer -/
def Two {α : Type} (m m' : M α) (Post : α → Prop) : Prop := ∃ r, M.Conv m r ∧ M.Conv m' r ∧ Post r
theorem Two.mk {α : Type} {m m' : M α} {Post : α → Prop} {r : α} (h : M.Conv m r) (h' : M.Conv m' r) (p : Post r) : Two m m' Post := ⟨r, h, h', p⟩
theorem Two.ret {α : Type} {Post : α → Prop} (r : α) (p : Post r) : Two (M.ret r) (M.ret r) Post := ⟨r, M.Conv_ret _, M.Conv_ret _, p⟩
theorem Two.bind {α β : Type} {m m' : M α} {f f' : α → M β} {P : α → Prop} {Q : β → Prop} (h : Two m m' P) (g : ∀ x, P x → Two (f x) (f' x) Q) : Two (M.bind m f) (M.bind m' f') Q := by
  obtain ⟨x, h1, h2, p⟩ := h
  obtain ⟨r, g1, g2, q⟩ := g x p
  exact ⟨r, M.Conv_bind h1 g1, M.Conv_bind h2 g2, q⟩
theorem Two.bindC {α α' β : Type} {m : M α} {m' : M α'} {f : α → M β} {f' : α' → M β} {Q : β → Prop} {x : α} {x' : α'} (h : M.Conv m x) (h' : M.Conv m' x') (g : Two (f x) (f' x') Q) : Two (M.bind m f) (M.bind m' f') Q := by
  obtain ⟨r, g1, g2, q⟩ := g
  exact ⟨r, M.Conv_bind h g1, M.Conv_bind h' g2, q⟩
theorem Two.left {α β : Type} {m : M α} {m' : M β} {f : α → M β} {Q : β → Prop} {x : α} (h : M.Conv m x) (g : Two (f x) m' Q) : Two (M.bind m f) m' Q := by
  obtain ⟨r, g1, g2, q⟩ := g
  exact ⟨r, M.Conv_bind h g1, g2, q⟩
theorem Two.right {α β : Type} {m : M α} {m' : M β} {f : α → M β} {Q : β → Prop} {x : α} (h : M.Conv m x) (g : Two m' (f x) Q) : Two m' (M.bind m f) Q := by
  obtain ⟨r, g1, g2, q⟩ := g
  exact ⟨r, g1, M.Conv_bind h g2, q⟩
theorem Two.ite {α : Type} {b : Bool} {x y x' y' : M α} {Q : α → Prop} (h1 : b = true → Two x x' Q) (h2 : b = false → Two y y' Q) : Two (M.ite b x y) (M.ite b x' y') Q := by
  cases b
  · exact h2 rfl
  · exact h1 rfl
theorem Two.iteL {α : Type} {b : Bool} {x y m' : M α} {Q : α → Prop} (h1 : b = true → Two x m' Q) (h2 : b = false → Two y m' Q) : Two (M.ite b x y) m' Q := by
  cases b
  · exact h2 rfl
  · exact h1 rfl
theorem Two.iteR {α : Type} {b : Bool} {x y m' : M α} {Q : α → Prop} (h1 : b = true → Two m' x Q) (h2 : b = false → Two m' y Q) : Two m' (M.ite b x y) Q := by
  cases b
  · exact h2 rfl
  · exact h1 rfl
theorem two_forN {σ ρ : Type} {hi : Int} {fin : σ → ρ} {f f' : Int → σ → M (σ ⊕ ρ)} {Post : ρ → Prop} (I : Int → σ → Prop) (lo : Int)
    (round : ∀ i s, lo ≤ i → i < hi → I i s → Two (f i s) (f' i s) fun y => (∃ s', y = .inl s' ∧ I (i + 1) s') ∨ (∃ r, y = .inr r ∧ Post r)) :
    ∀ (d : Nat) (i : Int) (s : σ), (hi - i).toNat = d → lo ≤ i → (i ≤ hi ∨ i = lo) → I i s → (∀ i s, (i = hi ∨ i = lo ∧ hi ≤ lo) → I i s → Post (fin s)) → ∃ r, (∃ N, ∀ n, N ≤ n → M.forN hi fin f n d i s = some r) ∧ (∃ N, ∀ n, N ≤ n → M.forN hi fin f' n d i s = some r) ∧ Post r
  | 0, i, s, hd, h1, h2, hI, fi => by
    have hge : ¬ i < hi := by omega
    exact ⟨fin s, ⟨0, fun n _ => by simp [M.forN, hge]⟩, ⟨0, fun n _ => by simp [M.forN, hge]⟩, fi i s (by omega) hI⟩
  | d + 1, i, s, hd, h1, h2, hI, fi => by
    have hlt : i < hi := by omega
    obtain ⟨y, ⟨N, hy⟩, ⟨N', hy'⟩, hc⟩ := round i s h1 hlt hI
    rcases hc with ⟨s', rfl, hI'⟩ | ⟨r, rfl, hp⟩
    · obtain ⟨r, ⟨N1, h3⟩, ⟨N2, h4⟩, hp⟩ := two_forN (fin := fin) I lo round d (i + 1) s' (by omega) (by omega) (by omega) hI' fi
      exact ⟨r, ⟨max N N1, fun n hn => by simp [M.forN, hlt, hy n (by omega), h3 n (by omega)]⟩, ⟨max N' N2, fun n hn => by simp [M.forN, hlt, hy' n (by omega), h4 n (by omega)]⟩, hp⟩
    · exact ⟨r, ⟨N, fun n hn => by simp [M.forN, hlt, hy n hn]⟩, ⟨N', fun n hn => by simp [M.forN, hlt, hy' n hn]⟩, hp⟩
theorem Two.for {σ ρ : Type} {lo hi : Int} {fin : σ → ρ} {f f' : Int → σ → M (σ ⊕ ρ)} {s : σ} {Post : ρ → Prop} (I : Int → σ → Prop) (hlo : -9223372036854775808 ≤ lo) (hhi : hi ≤ 9223372036854775807) (h0 : I lo s)
    (round : ∀ i s, lo ≤ i → i < hi → I i s → Two (f i s) (f' i s) fun y => (∃ s', y = .inl s' ∧ I (i + 1) s') ∨ (∃ r, y = .inr r ∧ Post r)) (done : ∀ i s, (i = hi ∨ i = lo ∧ hi ≤ lo) → I i s → Post (fin s)) :
    Two (M.forI lo hi fin f s) (M.forI lo hi fin f' s) Post := by
  obtain ⟨r, ⟨N, h1⟩, ⟨N', h2⟩, hp⟩ := two_forN (fin := fin) I lo round _ lo s rfl (Int.le_refl _) (.inr rfl) h0 done
  exact ⟨r, ⟨N, fun n hn => by simp [M.forI, hlo, hhi, h1 n hn]⟩, ⟨N', fun n hn => by simp [M.forI, hlo, hhi, h2 n hn]⟩, hp⟩
def timesI (a b : Int) : Int := bif (a == (-1000000000000000)) || (b == (-1000000000000000)) then (-1000000000000000) else w64 (a + b)
theorem spec_l01Times_ok (a b : Int) : M.Conv (spec_l01Times a b) (timesI a b) := M.Conv_ite2 (fun _ => M.Conv_ret _) (fun _ => M.Conv_ret _)
theorem impl_times_ok (a b : Int) : M.Conv (impl_times a b) (timesI a b) := M.Conv_ite2 (fun _ => M.Conv_ret _) (fun _ => M.Conv_ret _)
/-- a vector: one to ten values -/
def vecB (x : List Int) : Bool := decide (1 ≤ x.length) && decide (x.length ≤ 10) && x.all valB
theorem spec_l02Vector_ok {x : List Int} (hl : x.length ≤ 9223372036854775807) : M.Conv (spec_l02Vector x) (vecB x) := by
  unfold spec_l02Vector
  refine M.Conv_bind (spec_l01In_ok _ _ _) (M.Conv_bind (x := vecB x) (M.Conv_ite (fun h => ?_) (fun h => ?_)) (M.Conv_ret _))
  · refine M.Conv_bind (spec_l01All_ok false hl) ((M.Conv_ret _).of ?_)
    simp at h
    simp [vecB, show 1 ≤ x.length by omega, show x.length ≤ 10 by omega]
  · refine (M.Conv_ret _).of ?_
    simp only [vecB]
    rw [show (decide (1 ≤ x.length) && decide (x.length ≤ 10)) = false by rw [← h]; congr 1 <;> simp <;> omega]; rfl
theorem impl_isVector_ok {x : List Int} (hl : x.length ≤ 9223372036854775807) : M.Conv (impl_isVector x) (vecB x) := by
  unfold impl_isVector
  refine M.Conv_bind (impl_within_ok _ _ _) (M.Conv_bind (x := vecB x) (M.Conv_ite (fun h => ?_) (fun h => ?_)) (M.Conv_ret _))
  · refine M.Conv_bind (impl_areValues_ok hl) ((M.Conv_ret _).of ?_)
    simp at h
    simp [vecB, show 1 ≤ x.length by omega, show x.length ≤ 10 by omega]
  · refine (M.Conv_ret _).of ?_
    simp only [vecB]
    rw [show (decide (1 ≤ x.length) && decide (x.length ≤ 10)) = false by rw [← h]; congr 1 <;> simp <;> omega]; rfl
theorem eqLoop_ok {a b : List Int} (ha : a.length ≤ 9223372036854775807) (hl : a.length = b.length) : M.Conv (M.forI 0 (a.length : Int) (fun s => .inl s) (fun i1 => (fun (_ : Unit) => M.bind (M.idx a i1) (fun x2 => M.bind (M.idx b i1) (fun x3 => M.ite (x2 != x3) (M.ret (.inr (.inr false))) (M.ret (.inl ())))))) ()) (bif decide (a = b) then (.inl () : Unit ⊕ Bool) else .inr false) := by
  have h := eqInt64S_ok (b := b) ha
  refine (M.Conv_allI (fun i x => b[i]? == some x) false ha fun i x hx => ?_).of ?_
  · have hi := (List.getElem?_eq_some_iff.1 hx).1
    refine M.Conv_bind (M.Conv_get (by omega) (by simpa using hx)) ?_
    refine M.Conv_bind (M.Conv_get (x := b[i]) (by omega) (by simp [show i < b.length by omega])) ?_
    have hb : (b[i]? == some x) = !(x != b[i]) := by rw [List.getElem?_eq_getElem (by omega), bne, Bool.not_not, Option.some_beq_some, BEq.comm]
    rw [hb]
    cases (x != b[i]) <;> exact M.Conv_ret _
  · have key : ((a.zipIdx 0).all fun q => b[q.2]? == some q.1) = decide (a = b) := by
      by_cases e : a = b
      · subst e
        rw [decide_eq_true rfl, List.all_eq_true]
        rintro ⟨x, i⟩ hq
        have := List.mk_mem_zipIdx_iff_getElem?.1 hq
        simp [this]
      · rw [decide_eq_false e, Bool.eq_false_iff]
        intro h
        apply e
        rw [List.all_eq_true] at h
        refine List.ext_getElem hl fun i h1 h2 => ?_
        have := h (a[i], i) (List.mk_mem_zipIdx_iff_getElem?.2 (List.getElem?_eq_getElem h1))
        simp [h2] at this
        exact this.symm
    rw [key]
theorem spec_l01Same_ok {a b : List Int} (ha : a.length ≤ 9223372036854775807) : M.Conv (spec_l01Same a b) (decide (a = b)) := by
  unfold spec_l01Same
  refine M.Conv_ite (fun h => ?_) (fun h => ?_)
  · have : a ≠ b := by rintro rfl; simp at h
    rw [decide_eq_false this]; exact M.Conv_ret _
  · have hl : a.length = b.length := Int.ofNat.inj (by simpa using h)
    refine M.Conv_bind (eqLoop_ok ha hl) ?_
    cases decide (a = b) <;> exact M.Conv_ret _
theorem slices_Equal_int_ok {a b : List Int} (ha : a.length ≤ 9223372036854775807) : M.Conv (slices_Equal_int a b) (decide (a = b)) := by
  unfold slices_Equal_int
  refine M.Conv_ite (fun h => ?_) (fun h => ?_)
  · have : a ≠ b := by rintro rfl; simp at h
    rw [decide_eq_false this]; exact M.Conv_ret _
  · have hl : a.length = b.length := Int.ofNat.inj (by simpa using h)
    refine M.Conv_bind (eqLoop_ok ha hl) ?_
    cases decide (a = b) <;> exact M.Conv_ret _
/-- 'for i < len(l)', the counter a variable; a round may leave -/
def runO {α ρ : Type} (g : Nat → α → Option ρ) (e : ρ) : Nat → List α → ρ
  | _, [] => e
  | i, x :: xs => match g i x with | none => runO g e (i + 1) xs | some r => r
theorem Conv_while {α ρ : Type} {l : List α} {f : Int → M (Int ⊕ ρ)} (g : Nat → α → Option ρ) (e : ρ) (step : ∀ (i : Nat) x, l[i]? = some x → M.Conv (f i) (match g i x with | none => .inl ((i : Int) + 1) | some r => .inr r)) (stop : M.Conv (f (l.length : Int)) (.inr e)) :
    M.Conv (M.loop f 0) (runO g e 0 l) := by
  have key : ∀ (xs : List α) (i : Nat), (∀ (j : Nat) x, xs[j]? = some x → M.Conv (f (i + j : Nat)) (match g (i + j) x with | none => .inl (((i + j : Nat) : Int) + 1) | some r => .inr r)) → M.Conv (f (i + xs.length : Nat)) (.inr e) →
      ∃ N m0, ∀ n, N ≤ n → ∀ m, m0 ≤ m → M.loopN f n m (i : Int) = some (runO g e i xs) := by
    intro xs
    induction xs with
    | nil =>
      intro i _ ⟨N, h⟩
      refine ⟨N, 1, fun n hn m hm => ?_⟩
      obtain ⟨m, rfl⟩ : ∃ q, m = q + 1 := ⟨m - 1, by omega⟩
      have := h n hn
      simp only [List.length_nil, Nat.add_zero] at this
      simp [M.loopN, this, runO]
    | cons x xs ih =>
      intro i hs hst
      obtain ⟨N, h⟩ := hs 0 x rfl
      simp only [Nat.add_zero] at h
      cases hg : g i x with
      | none =>
        obtain ⟨N', m0, h'⟩ := ih (i + 1) (fun j y hy => by have := hs (j + 1) y (by simpa using hy); rw [show i + (j + 1) = i + 1 + j by omega] at this; exact this) (by rw [show i + 1 + xs.length = i + (x :: xs).length by simp; omega]; exact hst)
        refine ⟨max N N', m0 + 1, fun n hn m hm => ?_⟩
        obtain ⟨m, rfl⟩ : ∃ q, m = q + 1 := ⟨m - 1, by omega⟩
        have h1 := h n (by omega)
        rw [hg] at h1
        simp only [M.loopN, h1, runO, hg]
        exact h' n (by omega) m (by omega)
      | some r =>
        refine ⟨N, 1, fun n hn m hm => ?_⟩
        obtain ⟨m, rfl⟩ : ∃ q, m = q + 1 := ⟨m - 1, by omega⟩
        have h1 := h n hn
        rw [hg] at h1
        simp only [M.loopN, h1, runO, hg]
  obtain ⟨N, m0, h⟩ := key l 0 (fun j x hx => by simpa using step j x hx) (by simpa using stop)
  exact ⟨max N m0, fun n hn => h n (by omega) n (by omega)⟩
def smII (a : List (List Int)) : Prop := a.length ≤ 1048576 ∧ ∀ r ∈ a, r.length ≤ 1048576
theorem toII_ok {a : List (List Int)} (h : smII a) : M.Conv (laws_toInt64SS a) a := by
  unfold laws_toInt64SS
  refine M.Conv_bind (M.Conv_make (by have := h.1; omega) (by have := h.1; omega)) ?_
  refine M.Conv_bind (x := a) (((M.Conv_fill (l := a) (f := _) (fun _ x => x) [] (by have := h.1; omega) fun i x s hx hs => ?_)).of ?_) (M.Conv_ret _)
  · have hi := (List.getElem?_eq_some_iff.1 hx).1
    have hr := h.2 x (List.mem_of_getElem? hx)
    refine M.Conv_bind (M.Conv_get (by omega) (by simpa using hx)) (M.Conv_bind (toInt64S_ok (by omega)) ?_)
    refine M.Conv_bind (M.Conv_get (x := s[i]) (by omega) (by simp [show i < s.length by omega])) ?_
    exact M.Conv_bind (M.Conv_upd (by omega)) (M.Conv_ret _)
  · exact M.zipIdx_map_fst.trans (List.map_id' _)
theorem eqII_refl {a : List (List Int)} (h : smII a) : M.Conv (laws_eqInt64SS a a) true := by
  unfold laws_eqInt64SS
  refine M.Conv_ite (fun q => by simp at q) (fun _ => M.Conv_bind (M.Conv_all (fun _ => true) false (by have := h.1; omega) fun i x hx => ?_) ?_)
  case refine_2 => rw [show (a.all fun _ => true) = true by simp]; exact M.Conv_ret _
  have hg : M.Conv (M.idx a i) x := M.Conv_get (by omega) (by simpa using hx)
  have hr := h.2 x (List.mem_of_getElem? hx)
  exact M.Conv_bind hg (M.Conv_bind hg (M.Conv_bind (eqI_refl (by unfold smI; omega)) (M.Conv_ite (fun q => by simp at q) (fun _ => M.Conv_ret _))))
/-- sizes: what is left after the rows, never more than at first -/
theorem szII_ok {a : List (List Int)} (h : fitL (fitL inI64) a) : ∃ z, M.Conv (laws_szInt64SS a 1048576) z ∧ (decide (z < 0) = false → smII a) := by
  have hl := h.1
  unfold laws_szInt64SS
  have e : w64 (1048576 - (a.length : Int)) = 1048576 - a.length := w64_eq _ (by omega)
  rw [e]
  by_cases h1 : (1048576 : Int) - a.length < 0
  · exact ⟨-1, M.Conv_ite (fun _ => M.Conv_ret _) (fun q => by have := of_decide_eq_false q; omega), fun q => by simp at q⟩
  · have key : ∀ (xs : List (List Int)) (i : Nat) (s : Int), 0 ≤ s → s ≤ 1048576 → ∃ y, M.run (σ := Int) (ρ := Int ⊕ Int) (fun _ r s => bif decide (s - r.length < 0) then .inr (.inr (-1)) else .inl (s - r.length)) (fun s => .inl s) i xs s = y ∧ ((∃ z, y = .inl z ∧ 0 ≤ z ∧ ∀ r ∈ xs, r.length ≤ 1048576) ∨ y = .inr (-1)) := by
      intro xs
      induction xs with
      | nil => exact fun i s h0 _ => ⟨_, rfl, .inl ⟨s, rfl, h0, by simp⟩⟩
      | cons r xs ih =>
        intro i s h0 h2
        simp only [M.run]
        by_cases hr : s - r.length < 0
        · rw [decide_eq_true hr]; exact ⟨_, rfl, .inr rfl⟩
        · rw [decide_eq_false hr]
          obtain ⟨y, hy, hc⟩ := ih (i + 1) (s - r.length) (by omega) (by omega)
          refine ⟨y, hy, hc.imp (fun ⟨z, a1, a2, a3⟩ => ⟨z, a1, a2, fun q hq => ?_⟩) id⟩
          rcases List.mem_cons.1 hq with rfl | hq
          · omega
          · exact a3 q hq
    obtain ⟨y, hy, hc⟩ := key a 0 (1048576 - a.length) (by omega) (by omega)
    have lp := (M.Conv_forI (l := a) (f := fun i1 (s1 : Int) => M.bind (M.idx a i1) (fun x2 => M.bind (laws_szInt64S x2 s1) (fun x3 => M.ite (decide (x3 < 0)) (M.ret (.inr (.inr (-1)))) (M.ret (.inl x3))))) (fin := fun s => .inl s) (s := 1048576 - (a.length : Int)) (ρ := Int ⊕ Int) (fun _ r s => bif decide (s - r.length < 0) then .inr (.inr (-1)) else .inl (s - r.length)) (fun _ s => 0 ≤ s ∧ s ≤ 1048576) (by omega) ⟨by omega, by omega⟩ fun i r s hr hs => by
      have hrl := (h.2 r (List.mem_of_getElem? hr)).1
      have e2 : w64 (s - (r.length : Int)) = s - r.length := w64_eq _ (by omega)
      constructor
      · refine M.Conv_bind (M.Conv_get (by omega) (by simpa using hr)) ?_
        unfold laws_szInt64S
        rw [e2]
        by_cases hn : s - (r.length : Int) < 0
        · rw [decide_eq_true hn]
          exact M.Conv_bind (x := -1) (M.Conv_ret _) (M.Conv_ret _)
        · rw [decide_eq_false hn]
          exact M.Conv_bind (x := s - (r.length : Int)) (M.Conv_ret _) (M.Conv_ite (fun q => absurd (of_decide_eq_true q) hn) (fun _ => M.Conv_ret _))
      · intro s' es
        by_cases hn : s - (r.length : Int) < 0
        · rw [decide_eq_true hn] at es; cases es
        · rw [decide_eq_false hn] at es; cases es; omega).of hy
    rcases hc with ⟨z, rfl, hz, hm⟩ | rfl
    · exact ⟨z, M.Conv_ite (fun q => absurd (of_decide_eq_true q) h1) (fun _ => M.Conv_bind lp (M.Conv_ret _)), fun _ => ⟨by omega, hm⟩⟩
    · exact ⟨-1, M.Conv_ite (fun q => absurd (of_decide_eq_true q) h1) (fun _ => M.Conv_bind lp (M.Conv_ret _)), fun q => by simp at q⟩
theorem idx_mid {α : Type} {pre suf : List α} {x : α} {n i : Nat} (h : pre.length = i) : M.idx (pre ++ x :: suf) (i : Int) n = some x := by subst h; simp [M.idx]
theorem set_mid {α : Type} {pre suf : List α} {x y : α} {i : Nat} (h : pre.length = i) : (pre ++ x :: suf).set (i : Int).toNat y = pre ++ [y] ++ suf := by subst h; simp
theorem markII_ok {a : List (List Int)} (h : smII a) (k : Int) (h0 : 0 ≤ k) (hk : k ≤ 1152921504606846977) :
    ∃ (k' : Int) (a' : List (List Int)), M.Conv (laws_markInt64SS a k) (k', a') ∧ k ≤ k' ∧ k' ≤ k + 1152921504606846976 ∧ a'.length = a.length ∧ M.Conv (laws_heldInt64SS a' k) k' := by
  -- row by row
  have key : ∀ (d : Nat) (i : Nat) (pre : List (List Int)) (q : Int), i + d = a.length → pre.length = i → k ≤ q → q ≤ k + 1099511627776 * i →
      ∃ (q' : Int) (suf : List (List Int)), suf.length = d ∧ q ≤ q' ∧ q' ≤ k + 1099511627776 * a.length ∧
        (∃ N, ∀ n, N ≤ n → M.forN (a.length : Int) (fun s => s) (fun i1 => (fun (s1 : (List (List Int)) × Int) => M.bind (M.idx s1.1 i1) (fun x2 => M.bind (laws_markInt64S x2 s1.2) (fun x3 => M.ret (.inl ((s1.1.set i1.toNat x3.2), x3.1)))))) n d i (pre ++ a.drop i, q) = some (pre ++ suf, q')) ∧
        (∀ pre2 : List (List Int), pre2.length = i → ∃ N, ∀ n, N ≤ n → M.forN (a.length : Int) (fun s => .inl s) (fun i1 => (fun (s1 : Int) => M.bind (M.idx (pre2 ++ suf) i1) (fun x2 => M.bind (laws_heldInt64S x2 s1) (fun x3 => M.ite (decide (x3 < 0)) (M.ret (.inr (.inr (-1)))) (M.ret (.inl x3)))))) n d i q = some (.inl q' : Int ⊕ Int)) := by
    intro d
    induction d with
    | zero =>
      intro i pre q hi hp h1 h2
      obtain rfl : i = a.length := by omega
      exact ⟨q, [], rfl, Int.le_refl _, h2, ⟨0, fun n _ => by simp [M.forN]⟩, fun pre2 _ => ⟨0, fun n _ => by simp [M.forN]⟩⟩
    | succ d ih =>
      intro i pre q hi hp h1 h2
      have hlt : i < a.length := by omega
      have hlt' : (i : Int) < a.length := by omega
      obtain ⟨r, hdrop, hmem⟩ : ∃ r, a.drop i = r :: a.drop (i + 1) ∧ r ∈ a := ⟨a[i], List.drop_eq_getElem_cons hlt, List.getElem_mem hlt⟩
      have hr := h.2 r hmem
      have hal := h.1
      obtain ⟨q1, r1, ⟨N1, m1⟩, le1, ge1, len1, ⟨N2, he1⟩⟩ := markI_ok (a := r) (by unfold smI; omega) q (by omega) (by omega)
      obtain ⟨q', suf, hs, le2, ge2, ⟨N3, g3⟩, g4⟩ := ih (i + 1) (pre ++ [r1]) q1 (by omega) (by simp [hp]) (by omega) (by omega)
      refine ⟨q', r1 :: suf, by simp [hs], by omega, ge2, ⟨max N1 N3, fun n hn => ?_⟩, fun pre2 hp2 => ?_⟩
      · have hidx : M.idx (pre ++ a.drop i) (i : Int) n = some r := by rw [hdrop]; exact idx_mid hp
        have hset : (pre ++ a.drop i).set (i : Int).toNat r1 = pre ++ [r1] ++ a.drop (i + 1) := by rw [hdrop]; exact set_mid hp
        simp only [M.forN, hlt', decide_true, cond_true, M.bind, hidx, m1 n (by omega), M.ret, hset]
        have := g3 n (by omega)
        simpa [M.bind, M.ret] using this
      · obtain ⟨N4, g5⟩ := g4 (pre2 ++ [r1]) (by simp [hp2])
        refine ⟨max N2 N4, fun n hn => ?_⟩
        have hidx : M.idx (pre2 ++ r1 :: suf) (i : Int) n = some r1 := idx_mid hp2
        have hq : ¬ q1 < 0 := by omega
        simp only [M.forN, hlt', decide_true, cond_true, M.bind, hidx, he1 n (by omega), M.ite, hq, decide_false, cond_false, M.ret]
        have := g5 n (by omega)
        simpa [M.bind, M.ret, M.ite] using this
  obtain ⟨q', suf, hs, le, ge, ⟨N, g1⟩, g2⟩ := key a.length 0 [] k (by simp) rfl (Int.le_refl _) (by simp)
  obtain ⟨N', g3⟩ := g2 [] rfl
  have hal := h.1
  refine ⟨q', suf, ?_, le, by omega, hs, ?_⟩
  · unfold laws_markInt64SS
    refine M.Conv_bind (x := (suf, q')) ⟨N, fun n hn => ?_⟩ (M.Conv_ret _)
    simp only [M.forI, show decide ((a.length : Int) ≤ 9223372036854775807) = true from decide_eq_true (by omega), show decide ((-9223372036854775808 : Int) ≤ 0) = true by decide, Bool.and_self, cond_true]
    have := g1 n hn
    simpa using this
  · unfold laws_heldInt64SS
    rw [hs]
    refine M.Conv_bind (x := (.inl q' : Int ⊕ Int)) ⟨N', fun n hn => ?_⟩ (M.Conv_ret _)
    simp only [M.forI, show decide ((a.length : Int) ≤ 9223372036854775807) = true from decide_eq_true (by omega), show decide ((-9223372036854775808 : Int) ≤ 0) = true by decide, Bool.and_self, cond_true]
    have := g3 n hn
    simpa using this
def widthN (a : List (List Int)) : Nat := (a.headD []).length
def matB (a : List (List Int)) : Bool := (decide (1 ≤ a.length) && decide (a.length ≤ 10)) && ((decide (1 ≤ widthN a) && decide (widthN a ≤ 10)) && a.all fun r => decide (r.length = widthN a) && r.all valB)
/-- a matrix of w columns -/
structure Mat (a : List (List Int)) (w : Nat) : Prop where
  rows : 1 ≤ a.length ∧ a.length ≤ 10
  cols : 1 ≤ w ∧ w ≤ 10
  row : ∀ r ∈ a, r.length = w ∧ ∀ x ∈ r, valB x = true
theorem matB_mat {a : List (List Int)} (h : matB a = true) : Mat a (widthN a) := by
  simp only [matB, Bool.and_eq_true, decide_eq_true_eq, List.all_eq_true] at h
  exact ⟨h.1, h.2.1, fun r hr => ⟨(h.2.2 r hr).1, (h.2.2 r hr).2⟩⟩
theorem Mat.head {a : List (List Int)} {w : Nat} (h : Mat a w) : ∃ r, a[0]? = some r ∧ r.length = w := by
  have := h.rows
  exact ⟨a[0], List.getElem?_eq_getElem (by omega), (h.row _ (List.getElem_mem (by omega))).1⟩
theorem spec_IsMatrix_ok {a : List (List Int)} (h : smII a) : M.Conv (spec_IsMatrix a) (matB a) := by
  unfold spec_IsMatrix
  have hl := h.1
  refine M.Conv_ite (fun q => (M.Conv_ret _).of ?_) (fun q => ?_)
  · simp only [Bool.or_eq_true, decide_eq_true_eq] at q
    have : (decide (1 ≤ a.length) && decide (a.length ≤ 10)) = false := by
      rcases q with q | q
      · rw [decide_eq_false (show ¬ 1 ≤ a.length by omega)]; rfl
      · rw [decide_eq_false (show ¬ a.length ≤ 10 by omega)]; simp
    simp [matB, this]
  · simp only [Bool.or_eq_false_iff, decide_eq_false_iff_not] at q
    obtain ⟨r0, rs, rfl⟩ := List.exists_cons_of_ne_nil (l := a) (by rintro rfl; simp at q)
    refine M.Conv_bind (M.Conv_all (fun r => vecB r && decide (r.length = r0.length)) false (by omega) fun i r hr => ?_) ?_
    · have hrl := h.2 r (List.mem_of_getElem? hr)
      have hg : M.Conv (M.idx (r0 :: rs) i) r := M.Conv_get (by omega) (by simpa using hr)
      refine M.Conv_bind hg (M.Conv_bind (spec_l02Vector_ok (by omega)) (M.Conv_bind (x := !(vecB r && decide (r.length = r0.length))) (M.Conv_ite (fun b => ?_) (fun b => ?_)) ?_))
      · simp only [Bool.not_eq_true'] at b; rw [b]; exact M.Conv_ret _
      · simp only [Bool.not_eq_false'] at b
        rw [b]
        refine M.Conv_bind hg (M.Conv_bind (M.Conv_get (x := r0) (by omega) rfl) ((M.Conv_ret _).of ?_))
        simp only [Bool.true_and, bne]
        congr 1
        rw [Bool.eq_iff_iff]; simp; omega
      · cases (vecB r && decide (r.length = r0.length)) <;> exact M.Conv_ret _
    · have e : matB (r0 :: rs) = (r0 :: rs).all fun r => vecB r && decide (r.length = r0.length) := by
        have L : matB (r0 :: rs) = true ↔ ((1 ≤ (r0 :: rs).length ∧ (r0 :: rs).length ≤ 10) ∧ ((1 ≤ r0.length ∧ r0.length ≤ 10) ∧ ∀ r ∈ r0 :: rs, r.length = r0.length ∧ r.all valB = true)) := by
          have e0 : matB (r0 :: rs) = ((decide (1 ≤ (r0 :: rs).length) && decide ((r0 :: rs).length ≤ 10)) && ((decide (1 ≤ r0.length) && decide (r0.length ≤ 10)) && (r0 :: rs).all fun r => decide (r.length = r0.length) && r.all valB)) := rfl
          rw [e0, Bool.and_eq_true, Bool.and_eq_true, Bool.and_eq_true, Bool.and_eq_true, List.all_eq_true]
          simp only [decide_eq_true_eq, Bool.and_eq_true]
        have R : ∀ r : List Int, (vecB r && decide (r.length = r0.length)) = true ↔ ((1 ≤ r.length ∧ r.length ≤ 10) ∧ r.all valB = true) ∧ r.length = r0.length := by
          intro r
          unfold vecB
          simp only [Bool.and_eq_true, decide_eq_true_eq]
        rw [Bool.eq_iff_iff, List.all_eq_true, L]
        constructor
        · rintro ⟨_, ⟨h1, h2⟩, h3⟩ r hr
          obtain ⟨e1, e2⟩ := h3 r hr
          exact (R r).2 ⟨⟨⟨by omega, by omega⟩, e2⟩, e1⟩
        · intro hh
          obtain ⟨⟨⟨e1, e2⟩, _⟩, _⟩ := (R r0).1 (hh r0 List.mem_cons_self)
          exact ⟨⟨by omega, by omega⟩, ⟨e1, e2⟩, fun r hr => ⟨((R r).1 (hh r hr)).2, ((R r).1 (hh r hr)).1.2⟩⟩
      rw [e]
      cases ((r0 :: rs).all fun r => vecB r && decide (r.length = r0.length)) <;> exact M.Conv_ret _
theorem impl_IsMatrix_ok {a : List (List Int)} (h : smII a) : M.Conv (impl_IsMatrix a) (matB a) := by
  unfold impl_IsMatrix slices_ContainsFunc_row_F_impl_IsMatrix_1 slices_IndexFunc_row_F_impl_IsMatrix_1
  have hl := h.1
  refine M.Conv_bind (impl_within_ok _ _ _) ?_
  have e0 : (decide (1 ≤ (a.length : Int)) && decide ((a.length : Int) ≤ 10)) = (decide (1 ≤ a.length) && decide (a.length ≤ 10)) := by
    rw [decide_eq_decide.2 (show (1 : Int) ≤ a.length ↔ 1 ≤ a.length by omega), decide_eq_decide.2 (show (a.length : Int) ≤ 10 ↔ a.length ≤ 10 by omega)]
  rw [e0]
  cases hb : (decide (1 ≤ a.length) && decide (a.length ≤ 10)) with
  | false => exact M.Conv_bind (x := true) (M.Conv_ret _) ((M.Conv_ret _).of (by simp [matB, hb]))
  | true =>
    simp only [Bool.and_eq_true, decide_eq_true_eq] at hb
    obtain ⟨r0, rs, rfl⟩ := List.exists_cons_of_ne_nil (l := a) (by rintro rfl; simp at hb)
    have e1 : (decide (1 ≤ (r0.length : Int)) && decide ((r0.length : Int) ≤ 10)) = (decide (1 ≤ widthN (r0 :: rs)) && decide (widthN (r0 :: rs) ≤ 10)) := by
      rw [decide_eq_decide.2 (show (1 : Int) ≤ r0.length ↔ 1 ≤ r0.length by omega), decide_eq_decide.2 (show (r0.length : Int) ≤ 10 ↔ r0.length ≤ 10 by omega)]; rfl
    refine M.Conv_bind (x := !(decide (1 ≤ widthN (r0 :: rs)) && decide (widthN (r0 :: rs) ≤ 10))) (M.Conv_ite (fun q => by simp at q) (fun _ => M.Conv_bind (M.Conv_get (x := r0) (by omega) rfl) (M.Conv_bind (impl_within_ok _ _ _) ((M.Conv_ret _).of (by rw [e1]))))) ?_
    have e2 : matB (r0 :: rs) = ((decide (1 ≤ widthN (r0 :: rs)) && decide (widthN (r0 :: rs) ≤ 10)) && (r0 :: rs).all fun r => decide (r.length = widthN (r0 :: rs)) && r.all valB) := by
      simp only [matB, decide_eq_true hb.1, decide_eq_true hb.2, Bool.true_and]
    rw [e2]
    cases (decide (1 ≤ widthN (r0 :: rs)) && decide (widthN (r0 :: rs) ≤ 10)) with
    | false => exact M.Conv_ret _
    | true =>
      refine M.Conv_ite (fun q => by simp at q) (fun _ => ?_)
      refine M.Conv_bind (contains_ok (fun r => !(decide (r.length = widthN (r0 :: rs)) && r.all valB)) (by omega) fun i r hr => ?_) ((M.Conv_ret _).of (by rw [any_not, Bool.true_and]))
      have hrl := h.2 r (List.mem_of_getElem? hr)
      refine M.Conv_bind (M.Conv_get (by omega) (by simpa using hr)) (M.Conv_bind (x := !(decide (r.length = widthN (r0 :: rs)) && r.all valB)) (M.Conv_bind (M.Conv_get (x := r0) (by omega) rfl) (M.Conv_bind (x := !(decide (r.length = widthN (r0 :: rs)) && r.all valB)) (M.Conv_ite (fun q => ?_) (fun q => ?_)) (M.Conv_ret _))) ?_)
      · have : r.length ≠ widthN (r0 :: rs) := fun e => by rw [show r.length = r0.length from e] at q; simp at q
        rw [decide_eq_false this]; exact M.Conv_ret _
      · have : r.length = widthN (r0 :: rs) := Int.ofNat.inj (show (r.length : Int) = r0.length by simpa using q)
        rw [decide_eq_true this]; exact M.Conv_bind (impl_areValues_ok (by omega)) (M.Conv_ret _)
      · cases (decide (r.length = widthN (r0 :: rs)) && r.all valB) <;> exact M.Conv_ret _

def foldI {α σ : Type} (g : Nat → α → σ → σ) : Nat → List α → σ → σ
  | _, [], s => s
  | i, x :: xs, s => foldI g (i + 1) xs (g i x s)
theorem run_foldI {α σ ρ : Type} (g : Nat → α → σ → σ) (fin : σ → ρ) : ∀ (l : List α) (i : Nat) (s : σ), M.run (fun i x s => .inl (g i x s)) fin i l s = fin (foldI g i l s)
  | [], _, _ => rfl
  | x :: xs, i, s => by simp only [M.run, foldI]; exact run_foldI g fin xs (i + 1) (g i x s)
theorem Conv_foldI {α σ : Type} {l : List α} {f : Int → σ → M (σ ⊕ σ)} {s : σ} (g : Nat → α → σ → σ) (I : Nat → σ → Prop) (hl : l.length ≤ 9223372036854775807) (h0 : I 0 s) (H : ∀ (i : Nat) x s, l[i]? = some x → I i s → M.Conv (f i s) (.inl (g i x s)) ∧ I (i + 1) (g i x s)) :
    M.Conv (M.forI 0 (l.length : Int) (fun s => s) f s) (foldI g 0 l s) :=
  (M.Conv_forI (fun i x s => .inl (g i x s)) I hl h0 fun i x s hx hI => ⟨(H i x s hx hI).1, fun s' e => by cases e; exact (H i x s hx hI).2⟩).of (run_foldI g _ l 0 s)
/-- a loop whose state has a counter -/
theorem Conv_whileS {σ ρ : Type} {n : Nat} {f : σ × Int → M ((σ × Int) ⊕ ρ)} (g : Nat → σ → σ) (I : Nat → σ → Prop) (e : σ → ρ) (s0 : σ) (h0 : I 0 s0)
    (step : ∀ i s, i < n → I i s → M.Conv (f (s, (i : Int))) (.inl (g i s, (i : Int) + 1)) ∧ I (i + 1) (g i s)) (stop : ∀ s, I n s → M.Conv (f (s, (n : Int))) (.inr (e s))) : ∃ s, I n s ∧ M.Conv (M.loop f (s0, 0)) (e s) := by
  have key : ∀ (d i : Nat) (s : σ), i + d = n → I i s → ∃ s', I n s' ∧ ∃ N m0, ∀ k, N ≤ k → ∀ m, m0 ≤ m → M.loopN f k m (s, (i : Int)) = some (e s') := by
    intro d
    induction d with
    | zero =>
      intro i s hi hI
      obtain rfl : i = n := by omega
      obtain ⟨N, h⟩ := stop s hI
      refine ⟨s, hI, N, 1, fun k hk m hm => ?_⟩
      obtain ⟨m, rfl⟩ : ∃ q, m = q + 1 := ⟨m - 1, by omega⟩
      simp [M.loopN, h k hk]
    | succ d ih =>
      intro i s hi hI
      obtain ⟨⟨N, h⟩, hI'⟩ := step i s (by omega) hI
      obtain ⟨s', hs', N', m0, h'⟩ := ih (i + 1) (g i s) (by omega) hI'
      refine ⟨s', hs', max N N', m0 + 1, fun k hk m hm => ?_⟩
      obtain ⟨m, rfl⟩ : ∃ q, m = q + 1 := ⟨m - 1, by omega⟩
      simp only [M.loopN, h k (by omega)]
      have := h' k (by omega) m (by omega)
      simpa using this
  obtain ⟨s, hs, N, m0, h⟩ := key n 0 s0 (by omega) h0
  exact ⟨s, hs, max N m0, fun k hk => h k (by omega) k (by omega)⟩
theorem Conv_whileV {σ ρ : Type} {n : Nat} {f : σ × Int → M ((σ × Int) ⊕ ρ)} (val : Nat → σ) (r : ρ) (step : ∀ (i : Nat), i < n → M.Conv (f (val i, (i : Int))) (.inl (val (i + 1), (i : Int) + 1))) (stop : M.Conv (f (val n, (n : Int))) (.inr r)) : M.Conv (M.loop f (val 0, 0)) r := by
  obtain ⟨s, _, h⟩ := Conv_whileS (n := n) (f := f) (fun i _ => val (i + 1)) (fun i s => s = val i) (fun _ => r) (val 0) rfl (fun i s hi hs => by subst hs; exact ⟨step i hi, rfl⟩) (fun s hs => by subst hs; exact stop)
  exact h
/-- what one row says of the least difference in column j -/
def quoC (b : List Int) (i : Nat) (v : Int) : Int := bif ((b[i]?).getD 0) == (-1000000000000000) then (-1000000000000000) else w64 ((b[i]?).getD 0 - v)
def stepC (b : List Int) (j : Nat) (i : Nat) (row : List Int) (s : Int × Bool) : Int × Bool :=
  bif ((row[j]?).getD 0) == (-1000000000000000) then s else bif !s.2 || decide (quoC b i ((row[j]?).getD 0) < s.1) then (quoC b i ((row[j]?).getD 0), true) else s
def colS (a : List (List Int)) (b : List Int) (j : Nat) : Int × Bool := foldI (stepC b j) 0 a (0, false)
theorem stepC_snd (b : List Int) (j i : Nat) (row : List Int) (s : Int × Bool) : (stepC b j i row s).2 = (s.2 || (((row[j]?).getD 0) != (-1000000000000000))) := by
  unfold stepC
  simp only [bne]
  cases ((row[j]?).getD 0) == (-1000000000000000) with
  | true => simp
  | false =>
    cases hs : s.2 with
    | false => simp
    | true =>
      simp only [cond_false, Bool.not_true, Bool.false_or]
      cases decide (quoC b i ((row[j]?).getD 0) < s.1) <;> simp [hs]
theorem colS_found (a : List (List Int)) (b : List Int) (j : Nat) : (colS a b j).2 = a.any fun r => ((r[j]?).getD 0) != (-1000000000000000) := by
  have key : ∀ (l : List (List Int)) (i : Nat) (s : Int × Bool), (foldI (stepC b j) i l s).2 = (s.2 || l.any fun r => ((r[j]?).getD 0) != (-1000000000000000)) := by
    intro l
    induction l with
    | nil => intro i s; simp [foldI]
    | cons r rs ih => intro i s; rw [foldI, ih, stepC_snd, List.any_cons, Bool.or_assoc]
  simpa [colS] using key a 0 (0, false)
theorem Mat.get {a : List (List Int)} {w i : Nat} {row : List Int} (hm : Mat a w) (h : a[i]? = some row) {j : Nat} (hj : j < w) : M.Conv (M.idx row (j : Int)) ((row[j]?).getD 0) ∧ valB ((row[j]?).getD 0) = true := by
  obtain ⟨e1, e2⟩ := hm.row row (List.mem_of_getElem? h)
  rw [List.getElem?_eq_getElem (by omega)]
  exact ⟨M.Conv_get (by omega) (by simp [show j < row.length by omega]), e2 _ (List.getElem_mem _)⟩
theorem get_row {a : List (List Int)} {i : Nat} {row : List Int} (h : a[i]? = some row) : M.Conv (M.idx a (i : Int)) row := M.Conv_get (by omega) (by simpa using h)
/-- the greatest subsolution's program, and its twin -/
def fitsB (a : List (List Int)) (b : List Int) : Bool := (List.range (widthN a)).all fun j => (colS a b j).2
theorem spec_l08Fits_ok {a : List (List Int)} {b : List Int} {w : Nat} (hm : Mat a w) (hw : widthN a = w) : M.Conv (spec_l08Fits a) (fitsB a b) := by
  unfold spec_l08Fits
  obtain ⟨r0, h0, hl⟩ := hm.head
  have hrows := hm.rows
  have hcols := hm.cols
  refine M.Conv_bind (x := (bif fitsB a b then .inl (w : Int) else .inr false : Int ⊕ Bool)) ((Conv_while (l := List.range w) (fun i _ => bif (colS a b i).2 then none else some (.inr false)) (.inl (w : Int)) (fun i x hx => ?_) ?_).of ?_) ?_
  · have hi : i < w := by have := (List.getElem?_eq_some_iff.1 hx).1; simpa using this
    refine M.Conv_bind (get_row h0) (M.Conv_ite (fun _ => ?_) (fun q => by have := of_decide_eq_false q; omega))
    refine M.Conv_bind (x := (colS a b i).2) ?_ ?_
    · rw [colS_found]
      refine (M.Conv_fold (l := a) (fun s r => s || (((r[i]?).getD 0) != (-1000000000000000))) (by omega) fun k r s hr => ?_).of ?_
      · refine M.Conv_bind (x := s || (((r[i]?).getD 0) != (-1000000000000000))) (M.Conv_ite (fun q => (M.Conv_ret _).of (by simp [q])) (fun q => ?_)) (M.Conv_ret _)
        exact M.Conv_bind (get_row hr) (M.Conv_bind (hm.get hr hi).1 ((M.Conv_ret _).of (by simp [q])))
      · have : ∀ (l : List (List Int)) (s : Bool), l.foldl (fun s r => s || (((r[i]?).getD 0) != (-1000000000000000))) s = (s || l.any fun r => ((r[i]?).getD 0) != (-1000000000000000)) := by
          intro l
          induction l with
          | nil => simp
          | cons r rs ih => intro s; rw [List.foldl_cons, ih, List.any_cons, Bool.or_assoc]
        simpa using this a false
    · cases (colS a b i).2 with
      | true => exact M.Conv_ite (fun q => by simp at q) (fun _ => (M.Conv_ret _).of (by rw [w64_eq _ (by omega)]; rfl))
      | false => exact M.Conv_ret _
  · simp only [List.length_range]
    exact M.Conv_bind (get_row h0) (M.Conv_ite (fun q => by have := of_decide_eq_true q; omega) (fun _ => M.Conv_ret _))
  · have key : ∀ (n i : Nat), runO (ρ := Int ⊕ Bool) (fun i (_ : Nat) => bif (colS a b i).2 then none else some (.inr false)) (.inl (w : Int)) i ((List.range n).map (i + ·)) = bif ((List.range n).map (i + ·)).all (fun j => (colS a b j).2) then .inl (w : Int) else .inr false := by
      intro n
      induction n with
      | zero => intro i; rfl
      | succ n ih =>
        intro i
        have e : (List.range (n + 1)).map (i + ·) = i :: (List.range n).map (i + 1 + ·) := by
          rw [List.range_succ_eq_map, List.map_cons, List.map_map]
          congr 1
          exact List.map_congr_left fun k _ => by simp only [Function.comp]; omega
        rw [e]
        simp only [runO, List.all_cons]
        cases (colS a b i).2 with
        | true => simpa using ih (i + 1)
        | false => rfl
    have := key w 0
    simpa [fitsB, hw] using this
  · cases fitsB a b <;> exact M.Conv_ret _
def subL (a : List (List Int)) (b : List Int) : List Int := (List.range (widthN a)).map fun j => (colS a b j).1
theorem subL_len (a : List (List Int)) (b : List Int) : (subL a b).length = widthN a := by simp [subL]
theorem spec_l08Sub_ok {a : List (List Int)} {b : List Int} {w : Nat} (hm : Mat a w) (hw : widthN a = w) (hb : b.length = a.length) : M.Conv (spec_l08Sub a b) (subL a b) := by
  unfold spec_l08Sub
  obtain ⟨r0, h0, hl⟩ := hm.head
  have hrows := hm.rows
  have hcols := hm.cols
  refine M.Conv_bind (x := (subL a b, (w : Int))) (Conv_whileV (n := w) (fun i => (List.range i).map fun j => (colS a b j).1) _ (fun j hj => ?_) ?_) (M.Conv_ret _)
  · refine M.Conv_bind (get_row h0) (M.Conv_ite (fun _ => ?_) (fun q => by have := of_decide_eq_false q; omega))
    refine M.Conv_bind (x := colS a b j) (Conv_foldI (stepC b j) (fun _ _ => True) (by omega) trivial fun i row s hr _ => ⟨?_, trivial⟩) (M.Conv_bind (M.Conv_app (by simp; omega)) ((M.Conv_ret _).of (by rw [w64_eq _ (by omega), List.range_succ, List.map_append]; rfl)))
    have hi := (List.getElem?_eq_some_iff.1 hr).1
    obtain ⟨rd, rv⟩ := hm.get hr hj
    have hbi : M.Conv (M.idx b (i : Int)) ((b[i]?).getD 0) := M.Conv_get (by omega) (by simp [show i < b.length by omega])
    refine M.Conv_bind (x := stepC b j i row s) (M.Conv_bind (get_row hr) (M.Conv_bind rd (M.Conv_ite (fun q => (M.Conv_ret _).of ?_) (fun q => M.Conv_bind hbi (M.Conv_bind (x := quoC b i ((row[j]?).getD 0)) ?_ ?_))))) (M.Conv_ret _)
    · simp only [stepC, q, cond_true]
    · refine M.Conv_ite (fun p => M.Conv_bind hbi (M.Conv_bind (get_row hr) (M.Conv_bind rd ((M.Conv_ret _).of ?_)))) (fun p => (M.Conv_ret _).of ?_)
      · simp only [bne, Bool.not_eq_true'] at p; simp only [quoC, p, cond_false]
      · simp only [bne, Bool.not_eq_false'] at p; simp only [quoC, p, cond_true]
    · refine M.Conv_ite (fun p => (M.Conv_ret _).of ?_) (fun p => (M.Conv_ret _).of ?_)
      · simp only [stepC, q, cond_false, p, cond_true]
      · simp only [stepC, q, cond_false, p]
  · exact M.Conv_bind (get_row h0) (M.Conv_ite (fun q => by have := of_decide_eq_true q; omega) (fun _ => (M.Conv_ret _).of (by rw [subL, hw])))
theorem impl_greatestSub_ok {a : List (List Int)} {b : List Int} (ha : smII a) (hbl : smI b) : M.Conv (impl_greatestSub a b) (bif matB a && vecB b then bif decide (a.length = b.length) then bif fitsB a b then (subL a b, 0) else ([], 5) else ([], 5) else ([], 1)) := by
  unfold impl_greatestSub
  unfold smI at hbl
  refine M.Conv_bind (impl_IsMatrix_ok ha) (M.Conv_bind (x := !(matB a && vecB b)) (M.Conv_ite (fun q => (M.Conv_ret _).of ?_) (fun q => M.Conv_bind (impl_isVector_ok (by omega)) ((M.Conv_ret _).of ?_))) ?_)
  · simp only [Bool.not_eq_true'] at q; rw [q]; rfl
  · simp only [Bool.not_eq_false'] at q; rw [q]; rfl
  cases hmv : (matB a && vecB b) with
  | false => exact M.Conv_ret _
  | true =>
    simp only [Bool.and_eq_true] at hmv
    have hm := matB_mat hmv.1
    obtain ⟨r0, h0, hl⟩ := hm.head
    have hrows := hm.rows
    have hcols := hm.cols
    have hbv : ∀ x ∈ b, valB x = true := by have := hmv.2; simp only [vecB, Bool.and_eq_true, List.all_eq_true] at this; exact this.2
    refine M.Conv_ite (fun q => by simp at q) (fun _ => M.Conv_ite (fun q => (M.Conv_ret _).of ?_) (fun q => ?_))
    · have : a.length ≠ b.length := fun e => by rw [e] at q; simp at q
      rw [decide_eq_false this]; rfl
    · have hab : a.length = b.length := Int.ofNat.inj (show (a.length : Int) = b.length by simpa using q)
      rw [decide_eq_true hab]
      refine M.Conv_bind (get_row h0) (M.Conv_bind (M.Conv_make (by omega) (by omega)) ?_)
      rw [hl, Int.toNat_natCast, List.length_replicate]
      -- column by column
      have key : ∀ (d j : Nat), j + d = widthN a → ∃ N, ∀ n, N ≤ n → M.forN (widthN a : Int) (fun s => .inl s) (fun i1 => (fun (s1 : (List Int)) => M.bind (M.forI 0 (a.length : Int) (fun s => s) (fun i2 => (fun (s3 : (List Int) × Bool) => M.bind (M.bind (M.idx a i2) (fun x7 => M.bind (M.idx x7 i1) (fun x8 => M.ite (x8 == (-1000000000000000)) (M.ret (s3.1, s3.2)) (M.bind (M.idx b i2) (fun x9 => M.bind (M.idx x7 i1) (fun x10 => M.bind (impl_times x9 (w64 (0 - x10))) (fun x11 => M.bind (M.ite (!s3.2) (M.ret true) (M.bind (M.idx s3.1 i1) (fun x13 => M.ret (decide (x11 < x13))))) (fun x12 => M.ite x12 (M.bind (M.idx s3.1 i1) (fun x14 => M.bind (M.upd s3.1 i1 x11) (fun l2 => M.ret (l2, true)))) (M.ret (s3.1, s3.2)))))))))) (fun (s4 : (List Int) × Bool) => M.ret (.inl (s4.1, s4.2))))) (s1, false)) (fun x6 => M.ite (!x6.2) (M.ret (.inr (.inr (([] : List Int), 5)))) (M.ret (.inl x6.1))))) n d (j : Int) ((subL a b).take j ++ List.replicate d 0) =
            some (bif ((List.range d).map (j + ·)).all (fun j => (colS a b j).2) then (.inl (subL a b) : List Int ⊕ (List Int × Int)) else .inr ([], 5)) := by
        intro d
        induction d with
        | zero =>
          intro j hj
          obtain rfl : j = widthN a := by omega
          have ht : (subL a b).take (widthN a) = subL a b := List.take_of_length_le (by rw [subL_len]; exact Nat.le_refl _)
          exact ⟨0, fun n _ => by simp [M.forN, ht]⟩
        | succ d ih =>
          intro j hj
          have hjw : j < widthN a := by omega
          have hjw' : (j : Int) < widthN a := by omega
          have htl : ((subL a b).take j).length = j := by rw [List.length_take, subL_len]; omega
          have hset : ∀ v, ((subL a b).take j ++ List.replicate (d + 1) 0).set j v = (subL a b).take j ++ v :: List.replicate d 0 := fun v => by
            rw [List.set_append_right _ _ (by omega), htl, Nat.sub_self, List.replicate_succ]; rfl
          have hinner : M.Conv (M.forI 0 (a.length : Int) (fun s => s) (fun i2 => (fun (s3 : (List Int) × Bool) => M.bind (M.bind (M.idx a i2) (fun x7 => M.bind (M.idx x7 (j : Int)) (fun x8 => M.ite (x8 == (-1000000000000000)) (M.ret (s3.1, s3.2)) (M.bind (M.idx b i2) (fun x9 => M.bind (M.idx x7 (j : Int)) (fun x10 => M.bind (impl_times x9 (w64 (0 - x10))) (fun x11 => M.bind (M.ite (!s3.2) (M.ret true) (M.bind (M.idx s3.1 (j : Int)) (fun x13 => M.ret (decide (x11 < x13))))) (fun x12 => M.ite x12 (M.bind (M.idx s3.1 (j : Int)) (fun x14 => M.bind (M.upd s3.1 (j : Int) x11) (fun l2 => M.ret (l2, true)))) (M.ret (s3.1, s3.2)))))))))) (fun (s4 : (List Int) × Bool) => M.ret (.inl (s4.1, s4.2))))) ((subL a b).take j ++ List.replicate (d + 1) 0, false)) ((subL a b).take j ++ (colS a b j).1 :: List.replicate d 0, (colS a b j).2) := by
            -- the state in the program's spelling
            let W : Int × Bool → List Int × Bool := fun s => ((subL a b).take j ++ s.1 :: List.replicate d 0, s.2)
            have hW0 : ((subL a b).take j ++ List.replicate (d + 1) 0, false) = W (0, false) := by simp only [W, List.replicate_succ]
            have hrd : ∀ s, M.Conv (M.idx (W s).1 (j : Int)) s.1 := fun s => M.Conv_get (by omega) (by simp only [W, Int.toNat_natCast]; rw [List.getElem?_append_right (by omega), htl]; simp)
            have hup : ∀ s v, M.Conv (M.upd (W s).1 (j : Int) v) ((subL a b).take j ++ v :: List.replicate d 0) := fun s v => (M.Conv_upd (by simp only [W, List.length_append, htl, List.length_cons]; omega)).of (by simp only [W]; rw [List.set_append_right _ _ (by omega), htl, Nat.sub_self]; rfl)
            rw [hW0]
            have main := M.Conv_forI (l := a) (f := (fun i2 => (fun (s3 : (List Int) × Bool) => M.bind (M.bind (M.idx a i2) (fun x7 => M.bind (M.idx x7 (j : Int)) (fun x8 => M.ite (x8 == (-1000000000000000)) (M.ret (s3.1, s3.2)) (M.bind (M.idx b i2) (fun x9 => M.bind (M.idx x7 (j : Int)) (fun x10 => M.bind (impl_times x9 (w64 (0 - x10))) (fun x11 => M.bind (M.ite (!s3.2) (M.ret true) (M.bind (M.idx s3.1 (j : Int)) (fun x13 => M.ret (decide (x11 < x13))))) (fun x12 => M.ite x12 (M.bind (M.idx s3.1 (j : Int)) (fun x14 => M.bind (M.upd s3.1 (j : Int) x11) (fun l2 => M.ret (l2, true)))) (M.ret (s3.1, s3.2)))))))))) (fun (s4 : (List Int) × Bool) => M.ret (.inl (s4.1, s4.2)))))) (fin := fun s => s) (s := W (0, false)) (ρ := List Int × Bool)
              (fun i row s => .inl (W (stepC b j i row (((s.1[j]?).getD 0), s.2)))) (fun _ s => ∃ q, s = W q) (by omega) ⟨_, rfl⟩ (fun i row s hr ⟨q, hq⟩ => by
                subst hq
                have hi := (List.getElem?_eq_some_iff.1 hr).1
                obtain ⟨rd, rv⟩ := hm.get hr hjw
                have hq1 : (((W q).1[j]?).getD 0, (W q).2) = q := by
                  simp only [W]; rw [List.getElem?_append_right (by omega), htl]; simp
                refine ⟨?_, fun s' e => by cases e; exact ⟨_, rfl⟩⟩
                rw [hq1]
                have hbi : M.Conv (M.idx b (i : Int)) ((b[i]?).getD 0) := M.Conv_get (by omega) (by simp [show i < b.length by omega])
                refine M.Conv_bind (x := W (stepC b j i row q)) (M.Conv_bind (get_row hr) (M.Conv_bind rd (M.Conv_ite (fun p => (M.Conv_ret _).of ?_) (fun p => M.Conv_bind hbi (M.Conv_bind rd (M.Conv_bind (x := quoC b i ((row[j]?).getD 0)) ((impl_times_ok _ _).of ?_) (M.Conv_bind (x := !q.2 || decide (quoC b i ((row[j]?).getD 0) < q.1)) (M.Conv_ite (fun t => (M.Conv_ret _).of ?_) (fun t => M.Conv_bind (hrd q) ((M.Conv_ret _).of ?_))) ?_))))))) (M.Conv_ret _)
                · simp only [stepC, p, cond_true]
                · have hv := finB_bd (val_ne rv p)
                  simp only [timesI, quoC]
                  rw [w64_eq (0 - _) (by omega)]
                  cases hbb : ((b[i]?).getD 0) == (-1000000000000000) with
                  | true => simp
                  | false =>
                    have : (0 - (row[j]?).getD 0 == (-1000000000000000)) = false := by simp; omega
                    rw [this]; simp only [Bool.or_false, cond_false]
                    rw [show (b[i]?).getD 0 + (0 - (row[j]?).getD 0) = (b[i]?).getD 0 - (row[j]?).getD 0 by omega]
                · have t : q.2 = false := by simpa using t
                  simp [t]
                · have t : q.2 = true := by simpa using t
                  simp [t]
                · refine M.Conv_ite (fun t => M.Conv_bind (hrd q) (M.Conv_bind (hup q _) ((M.Conv_ret _).of ?_))) (fun t => (M.Conv_ret _).of ?_)
                  · simp only [stepC, p, cond_false, t, cond_true]; rfl
                  · simp only [stepC, p, cond_false, t])
            refine main.of ?_
            have run : ∀ (l : List (List Int)) (i : Nat) (q : Int × Bool), M.run (ρ := List Int × Bool) (fun i row s => .inl (W (stepC b j i row (((s.1[j]?).getD 0), s.2)))) (fun s => s) i l (W q) = W (foldI (stepC b j) i l q) := by
              intro l
              induction l with
              | nil => intro i q; rfl
              | cons r rs ih =>
                intro i q
                have hq1 : (((W q).1[j]?).getD 0, (W q).2) = q := by
                  simp only [W]; rw [List.getElem?_append_right (by omega), htl]; simp
                simp only [M.run, foldI, hq1]
                exact ih (i + 1) _
            exact run a 0 (0, false)
          obtain ⟨N1, hin⟩ := hinner
          have eall : ((List.range (d + 1)).map (j + ·)).all (fun j => (colS a b j).2) = ((colS a b j).2 && ((List.range d).map (j + 1 + ·)).all (fun j => (colS a b j).2)) := by
            rw [List.range_succ_eq_map, List.map_cons, List.map_map, List.all_cons]
            congr 2
            exact List.map_congr_left fun k _ => by simp only [Function.comp]; omega
          rw [eall]
          cases hf : (colS a b j).2 with
          | false =>
            refine ⟨N1, fun n hn => ?_⟩
            have := hin n hn
            rw [hf] at this
            simp only [M.forN, hjw', decide_true, cond_true]
            simp only [M.bind] at this ⊢
            rw [this]
            rfl
          | true =>
            obtain ⟨N2, h2⟩ := ih (j + 1) (by omega)
            refine ⟨max N1 N2, fun n hn => ?_⟩
            have h1 := hin n (by omega)
            rw [hf] at h1
            have h3 := h2 n (by omega)
            have htk : (subL a b).take (j + 1) = (subL a b).take j ++ [(colS a b j).1] := by
              rw [List.take_add_one]; congr 1
              simp [subL, hjw]
            rw [htk, List.append_assoc, List.singleton_append] at h3
            simp only [M.forN, hjw', decide_true, cond_true]
            simp only [M.bind] at h1 ⊢
            rw [h1]
            simp only [Bool.not_true, M.ite, cond_false, M.ret]
            simpa [M.bind, M.ite, M.ret] using h3
      obtain ⟨N, h⟩ := key (widthN a) 0 (by omega)
      refine M.Conv_bind (x := bif fitsB a b then (.inl (subL a b) : List Int ⊕ (List Int × Int)) else .inr ([], 5)) ⟨N, fun n hn => ?_⟩ ?_
      · have h1 := h n hn
        simp only [M.forI, show decide ((widthN a : Int) ≤ 9223372036854775807) = true from decide_eq_true (by omega), show decide ((-9223372036854775808 : Int) ≤ 0) = true by decide, Bool.and_self, cond_true]
        simpa [fitsB] using h1
      · cases fitsB a b <;> exact M.Conv_ret _

theorem spec_l08Code_ok {a : List (List Int)} {b : List Int} (ha : smII a) (hb : smI b) : M.Conv (spec_l08Code a b) (bif matB a && vecB b then bif decide (a.length = b.length) then bif fitsB a b then 0 else 5 else 5 else 1) := by
  unfold spec_l08Code
  unfold smI at hb
  refine M.Conv_bind (spec_IsMatrix_ok ha) (M.Conv_bind (x := !(matB a && vecB b)) (M.Conv_ite (fun q => (M.Conv_ret _).of ?_) (fun q => M.Conv_bind (spec_l02Vector_ok (by omega)) ((M.Conv_ret _).of ?_))) ?_)
  · simp only [Bool.not_eq_true'] at q; rw [q]; rfl
  · simp only [Bool.not_eq_false'] at q; rw [q]; rfl
  cases hmv : (matB a && vecB b) with
  | false => exact M.Conv_ret _
  | true =>
    simp only [Bool.and_eq_true] at hmv
    refine M.Conv_ite (fun q => by simp at q) (fun _ => ?_)
    by_cases hab : a.length = b.length
    · rw [decide_eq_true hab]
      refine M.Conv_bind (x := !fitsB a b) (M.Conv_ite (fun q => by rw [hab] at q; simp at q) (fun _ => M.Conv_bind (spec_l08Fits_ok (matB_mat hmv.1) rfl) (M.Conv_ret _))) ?_
      cases fitsB a b <;> exact M.Conv_ret _
    · rw [decide_eq_false hab]
      refine M.Conv_bind (x := true) (M.Conv_ite (fun _ => M.Conv_ret _) (fun q => ?_)) (M.Conv_ret _)
      exact absurd (Int.ofNat.inj (show (a.length : Int) = b.length by simpa using q)) hab
structure Resid (a : List (List Int)) (b : List Int) : Prop where
  mat : Mat a (widthN a)
  len : b.length = a.length
  vec : ∀ x ∈ b, valB x = true
theorem resid_cases {a : List (List Int)} {b : List Int} (ha : smII a) (hb : smI b) :
    (∃ code, code ≠ 0 ∧ M.Conv (spec_l08Code a b) code ∧ M.Conv (impl_greatestSub a b) ([], code)) ∨ (M.Conv (spec_l08Code a b) 0 ∧ M.Conv (impl_greatestSub a b) (subL a b, 0) ∧ M.Conv (spec_l08Sub a b) (subL a b) ∧ Resid a b) := by
  have h1 := spec_l08Code_ok ha hb
  have h2 := impl_greatestSub_ok ha hb
  cases hmv : (matB a && vecB b) with
  | false => rw [hmv] at h1 h2; exact .inl ⟨1, by decide, h1, h2⟩
  | true =>
    rw [hmv] at h1 h2
    simp only [Bool.and_eq_true] at hmv
    by_cases hab : a.length = b.length
    · rw [decide_eq_true hab] at h1 h2
      cases hf : fitsB a b with
      | false => rw [hf] at h1 h2; exact .inl ⟨5, by decide, h1, h2⟩
      | true =>
        rw [hf] at h1 h2
        have hm := matB_mat hmv.1
        have hv : ∀ x ∈ b, valB x = true := by have := hmv.2; simp only [vecB, Bool.and_eq_true, List.all_eq_true] at this; exact this.2
        exact .inr ⟨h1, h2, spec_l08Sub_ok hm rfl hab.symm, hm, hab.symm, hv⟩
    · rw [decide_eq_false hab] at h1 h2; exact .inl ⟨5, by decide, h1, h2⟩
theorem ne0 {code : Int} (h : code ≠ 0) : (code != 0) = true := by simpa using h
def dotL (x row : List Int) : Int := foldI (fun j v s => mx s (timesI v ((x[j]?).getD 0))) 0 row (-1000000000000000)
theorem spec_l02Apply_ok {a : List (List Int)} {x : List Int} {w : Nat} (hm : Mat a w) (hx : x.length = w) : M.Conv (spec_l02Apply a x) (a.map (dotL x)) := by
  unfold spec_l02Apply
  have hrows := hm.rows
  have hcols := hm.cols
  refine M.Conv_bind ((M.Conv_forI (fun _ r s => .inl (s ++ [dotL x r])) (fun i s => s.length = i) (by omega) rfl fun i r s hr hs => ?_).of (?_ : _ = a.map (dotL x))) (M.Conv_ret _)
  · have hi := (List.getElem?_eq_some_iff.1 hr).1
    obtain ⟨hrl, hrv⟩ := hm.row r (List.mem_of_getElem? hr)
    refine ⟨M.Conv_bind (x := dotL x r) ?_ (M.Conv_bind (M.Conv_app (by simp; omega)) (M.Conv_ret _)), fun s' e => by cases e; simp [hs]⟩
    rw [show (x.length : Int) = (r.length : Int) by omega]
    refine Conv_foldI (fun j v s => mx s (timesI v ((x[j]?).getD 0))) (fun _ _ => True) (by omega) trivial fun j v s hv _ => ⟨?_, trivial⟩
    have hj := (List.getElem?_eq_some_iff.1 hv).1
    refine M.Conv_bind (get_row hr) (M.Conv_bind (M.Conv_get (x := v) (by omega) (by simpa using hv)) (M.Conv_bind (M.Conv_get (x := (x[j]?).getD 0) (by omega) (by simp [show j < x.length by omega])) (M.Conv_bind (spec_l01Times_ok _ _) (M.Conv_ret _))))
  · have key : ∀ (xs : List (List Int)) (i : Nat) (s : List Int), M.run (ρ := List Int) (fun _ r s => .inl (s ++ [dotL x r])) (fun s => s) i xs s = s ++ xs.map (dotL x) := by
      intro xs
      induction xs with
      | nil => intro i s; simp [M.run]
      | cons x xs ih => intro i s; simp [M.run, ih]
    simpa using key a 0 []
theorem impl_timesVector_ok {a : List (List Int)} {x : List Int} {w : Nat} (hm : Mat a w) (hx : x.length = w) : M.Conv (impl_timesVector a x) (a.map (dotL x)) := by
  unfold impl_timesVector
  have hrows := hm.rows
  have hcols := hm.cols
  refine M.Conv_bind (M.Conv_make (by omega) (by omega)) ?_
  rw [Int.toNat_natCast]
  refine M.Conv_bind ((M.Conv_fill (l := a) (fun _ r => dotL x r) 0 (by omega) fun i r s hr hs => ?_).of (?_ : _ = a.map (dotL x))) (M.Conv_ret _)
  · have hi := (List.getElem?_eq_some_iff.1 hr).1
    obtain ⟨hrl, hrv⟩ := hm.row r (List.mem_of_getElem? hr)
    have his : i < s.length := by omega
    refine M.Conv_bind (get_row hr) (M.Conv_bind (M.Conv_get (x := s[i]) (by omega) (by simp [his])) (M.Conv_bind (M.Conv_upd his) (M.Conv_bind (x := s.set i (dotL x r)) ?_ (M.Conv_ret _))))
    refine (M.Conv_forI (l := r) (fun j v t => .inl (s.set i (mx ((t[i]?).getD 0) (timesI v ((x[j]?).getD 0))))) (fun _ t => ∃ q, t = s.set i q) (by omega) ⟨_, rfl⟩ fun j v t hv hq => ?_).of ?_
    · obtain ⟨q, hq⟩ := hq
      subst hq
      have hj := (List.getElem?_eq_some_iff.1 hv).1
      have hg : M.Conv (M.idx (s.set i q) (i : Int)) q := M.Conv_get (by omega) (by simp [his])
      have hq : ((s.set i q)[i]?).getD 0 = q := by simp [his]
      refine ⟨?_, fun s' e => by cases e; exact ⟨_, rfl⟩⟩
      rw [hq]
      refine M.Conv_bind (M.Conv_get (x := v) (by omega) (by simpa using hv)) (M.Conv_bind hg (M.Conv_bind (M.Conv_get (x := (x[j]?).getD 0) (by omega) (by simp [show j < x.length by omega])) (M.Conv_bind (impl_times_ok _ _) (M.Conv_bind hg (M.Conv_bind (M.Conv_upd (by simpa using his)) ((M.Conv_ret _).of (by rw [List.set_set])))))))
    have run : ∀ (l : List Int) (j : Nat) (q : Int), M.run (ρ := List Int) (fun j v t => .inl (s.set i (mx ((t[i]?).getD 0) (timesI v ((x[j]?).getD 0))))) (fun s => s) j l (s.set i q) = s.set i (foldI (fun j v s => mx s (timesI v ((x[j]?).getD 0))) j l q) := by
      intro l
      induction l with
      | nil => intro j q; rfl
      | cons v vs ih =>
        intro j q
        have hq : ((s.set i q)[i]?).getD 0 = q := by simp [his]
        simp only [M.run, foldI, hq]
        exact ih (j + 1) _
    exact run r 0 _
  · exact M.zipIdx_map_fst (g := fun r => dotL x r)
theorem Conv_forV {σ : Type} {n : Nat} {f : Int → σ → M (σ ⊕ σ)} (val : Nat → σ) (hn : n ≤ 9223372036854775807) (h : ∀ i, i < n → M.Conv (f i (val i)) (.inl (val (i + 1)))) : M.Conv (M.forI 0 (n : Int) (fun s => s) f (val 0)) (val n) := by
  have := M.Conv_forI (l := List.range n) (f := f) (fin := fun s => s) (s := val 0) (ρ := σ) (fun i _ _ => .inl (val (i + 1))) (fun i s => s = val i) (by simpa using hn) rfl (fun i x s hx hs => by
    subst hs
    have hi := (List.getElem?_eq_some_iff.1 hx).1
    exact ⟨h i (by simpa using hi), fun s' e => by cases e; rfl⟩)
  simp only [List.length_range] at this
  refine this.of ?_
  have run : ∀ (m i : Nat), M.run (σ := σ) (ρ := σ) (fun i (_ : Nat) _ => .inl (val (i + 1))) (fun s => s) i (List.range m) (val i) = val (i + m) := by
    have g : ∀ (l : List Nat) (i : Nat), M.run (σ := σ) (ρ := σ) (fun i (_ : Nat) _ => .inl (val (i + 1))) (fun s => s) i l (val i) = val (i + l.length) := by
      intro l
      induction l with
      | nil => intro i; rfl
      | cons x xs ih => intro i; simp only [M.run, List.length_cons]; rw [ih (i + 1)]; congr 1; omega
    intro m i
    rw [g, List.length_range]
  simpa using run n 0
def ConvL {σ ρ : Type} (f : σ → M (σ ⊕ ρ)) (s : σ) (r : ρ) : Prop := ∃ N m0, ∀ n, N ≤ n → ∀ m, m0 ≤ m → M.loopN f n m s = some r
theorem ConvL.conv {σ ρ : Type} {f : σ → M (σ ⊕ ρ)} {s : σ} {r : ρ} (h : ConvL f s r) : M.Conv (M.loop f s) r := by
  obtain ⟨N, m0, h⟩ := h
  exact ⟨max N m0, fun n hn => h n (by omega) n (by omega)⟩
theorem ConvL.step {σ ρ : Type} {f : σ → M (σ ⊕ ρ)} {s s' : σ} {r : ρ} (h1 : M.Conv (f s) (.inl s')) (h : ConvL f s' r) : ConvL f s r := by
  obtain ⟨N, h1⟩ := h1
  obtain ⟨N', m0, h⟩ := h
  refine ⟨max N N', m0 + 1, fun n hn m hm => ?_⟩
  obtain ⟨m, rfl⟩ : ∃ q, m = q + 1 := ⟨m - 1, by omega⟩
  simp only [M.loopN, h1 n (by omega)]
  exact h n (by omega) m (by omega)
theorem ConvL.stop {σ ρ : Type} {f : σ → M (σ ⊕ ρ)} {s : σ} {r : ρ} (h1 : M.Conv (f s) (.inr r)) : ConvL f s r := by
  obtain ⟨N, h1⟩ := h1
  refine ⟨N, 1, fun n hn m hm => ?_⟩
  obtain ⟨m, rfl⟩ : ∃ q, m = q + 1 := ⟨m - 1, by omega⟩
  simp only [M.loopN, h1 n hn]
def bitN (s j : Nat) : Nat := s / 2 ^ j % 2
def popN (s : Nat) : Nat := (List.range 10).foldl (fun t j => t + bitN s j) 0
def chk1 (s j : Nat) : Bool :=
  (ibit .and .i64 (ishr .i64 (s : Int) (IntKind.u64.wrap (j : Int))) 1 == (bitN s j : Int)) && (ibit .and .i64 (ishr .i64 (s : Int) (j : Int)) 1 == (bitN s j : Int)) && (ishl .i64 1 (IntKind.u64.wrap (j : Int)) == ((2 ^ j : Nat) : Int)) && (ishl .i64 1 (j : Int) == ((2 ^ j : Nat) : Int)) &&
  (ibit .or .i64 (s : Int) (ishl .i64 1 (j : Int)) == (bif bitN s j == 1 then (s : Int) else ((s + 2 ^ j : Nat) : Int))) && (bif bitN s j == 1 then decide (2 ^ j ≤ s) && (popN (s - 2 ^ j) + 1 == popN s) && (bitN (s - 2 ^ j) j == 0) else bitN s j == 0) && decide (IntKind.u64.wrap (j : Int) = (j : Int))
theorem chk1_all : ((List.range 1024).all fun s => (List.range 10).all fun j => chk1 s j) = true := by decide +kernel
theorem chk4_all : ((List.range 11).all fun n => (ishl .i64 1 (IntKind.u64.wrap (n : Int)) == ((2 ^ n : Nat) : Int)) && (ishl .i64 1 (n : Int) == ((2 ^ n : Nat) : Int)) && decide (2 ^ n ≤ 1024) && decide (1 ≤ 2 ^ n) && decide (0 ≤ IntKind.u64.wrap (n : Int))) = true := by decide +kernel
structure Bit (s j : Nat) : Prop where
  andU : ibit .and .i64 (ishr .i64 (s : Int) (IntKind.u64.wrap (j : Int))) 1 = (bitN s j : Int)
  and : ibit .and .i64 (ishr .i64 (s : Int) (j : Int)) 1 = (bitN s j : Int)
  shlU : ishl .i64 1 (IntKind.u64.wrap (j : Int)) = ((2 ^ j : Nat) : Int)
  shl : ishl .i64 1 (j : Int) = ((2 ^ j : Nat) : Int)
  or : ibit .or .i64 (s : Int) (ishl .i64 1 (j : Int)) = (bif bitN s j == 1 then (s : Int) else ((s + 2 ^ j : Nat) : Int))
  one : bitN s j = 1 → 2 ^ j ≤ s ∧ popN (s - 2 ^ j) + 1 = popN s ∧ bitN (s - 2 ^ j) j = 0
  zero : bitN s j ≠ 1 → bitN s j = 0
  wrapU : IntKind.u64.wrap (j : Int) = (j : Int)
theorem bit_ok {s j : Nat} (hs : s < 1024) (hj : j < 10) : Bit s j := by
  have h := chk1_all
  rw [List.all_eq_true] at h
  have h := h s (List.mem_range.2 hs)
  rw [List.all_eq_true] at h
  have h := h j (List.mem_range.2 hj)
  simp only [chk1, Bool.and_eq_true, beq_iff_eq, decide_eq_true_eq] at h
  obtain ⟨⟨⟨⟨⟨⟨h1, h2⟩, h3⟩, h4⟩, h5⟩, h6⟩, h7⟩ := h
  refine ⟨h1, h2, h3, h4, h5, fun e => ?_, fun e => ?_, h7⟩
  · rw [e] at h6
    simp only [beq_self_eq_true, cond_true, Bool.and_eq_true, decide_eq_true_eq, beq_iff_eq] at h6
    exact ⟨h6.1.1, h6.1.2, h6.2⟩
  · rw [show (bitN s j == 1) = false by simpa using e] at h6
    simpa using h6
theorem pow_ok {n : Nat} (hn : n ≤ 10) : ishl .i64 1 (IntKind.u64.wrap (n : Int)) = ((2 ^ n : Nat) : Int) ∧ ishl .i64 1 (n : Int) = ((2 ^ n : Nat) : Int) ∧ 2 ^ n ≤ 1024 ∧ 1 ≤ 2 ^ n ∧ 0 ≤ IntKind.u64.wrap (n : Int) := by
  have h := chk4_all
  rw [List.all_eq_true] at h
  have h := h n (List.mem_range.2 (by omega))
  simp only [Bool.and_eq_true, beq_iff_eq, decide_eq_true_eq] at h
  exact ⟨h.1.1.1.1, h.1.1.1.2, h.1.1.2, h.1.2, h.2⟩
def entA (a : List (List Int)) (i j : Nat) : Int := (((a[i]?).getD [])[j]?).getD 0
theorem conv_up {σ ρ : Type} {f : σ → M (σ ⊕ ρ)} {r : ρ} (st : Nat → σ) {n k0 : Nat} (hk : k0 ≤ n) (h : ∀ k, k0 ≤ k → k < n → M.Conv (f (st k)) (.inl (st (k + 1)))) (hs : M.Conv (f (st n)) (.inr r)) : M.Conv (M.loop f (st k0)) r := by
  have H : ∀ (d k : Nat), k0 ≤ k → k + d = n → ConvL f (st k) r := by
    intro d
    induction d with
    | zero => intro k _ e; obtain rfl : k = n := by omega
              exact ConvL.stop hs
    | succ d ih => intro k h1 e; exact ConvL.step (h k h1 (by omega)) (ih (k + 1) (by omega) (by omega))
  exact (H (n - k0) k0 (Nat.le_refl _) (by omega)).conv
theorem conv_up0 {σ ρ : Type} {f : σ → M (σ ⊕ ρ)} {r : ρ} {s0 : σ} (st : Nat → σ) {n k0 : Nat} (e : s0 = st k0) (hk : k0 ≤ n) (h : ∀ k, k0 ≤ k → k < n → M.Conv (f (st k)) (.inl (st (k + 1)))) (hs : M.Conv (f (st n)) (.inr r)) : M.Conv (M.loop f s0) r := by
  subst e; exact conv_up st hk h hs

structure Shp (a : List (List Int)) (w : Nat) : Prop where
  rows : 1 ≤ a.length ∧ a.length ≤ 10
  cols : 1 ≤ w ∧ w ≤ 10
  row : ∀ r ∈ a, r.length = w
theorem Mat.shp {a : List (List Int)} {w : Nat} (hm : Mat a w) : Shp a w := ⟨hm.rows, hm.cols, fun r hr => (hm.row r hr).1⟩
theorem ent_read {a : List (List Int)} {w i j : Nat} (hm : Shp a w) (hi : i < a.length) (hj : j < w) : ∃ r, M.Conv (M.idx a (i : Int)) r ∧ r.length = w ∧ M.Conv (M.idx r (j : Int)) (entA a i j) := by
  have hr : a[i]? = some a[i] := List.getElem?_eq_getElem hi
  have hl := hm.row _ (List.mem_of_getElem? hr)
  have h2 : a[i][j]? = some (a[i][j]'(by omega)) := List.getElem?_eq_getElem _
  refine ⟨_, get_row hr, hl, (M.Conv_idx h2).of ?_⟩
  simp only [entA, hr, Option.getD_some, h2]
theorem Conv_or {b v : Bool} {m : M Bool} (h : b = false → M.Conv m v) : M.Conv (M.ite b (M.ret true) m) (b || v) := by
  cases b with
  | true => exact M.Conv_ite (fun _ => M.Conv_ret _) (fun t => by simp at t)
  | false => exact M.Conv_ite (fun t => by simp at t) (fun _ => h rfl)
def Rel {α β : Type} (m : M α) (m' : M β) (Q : α → β → Prop) : Prop := ∃ r r', M.Conv m r ∧ M.Conv m' r' ∧ Q r r'
theorem Rel.of {α β : Type} {m : M α} {m' : M β} {Q : α → β → Prop} {r : α} {r' : β} (h : M.Conv m r) (h' : M.Conv m' r') (q : Q r r') : Rel m m' Q := ⟨r, r', h, h', q⟩
theorem Rel.bind {α β γ δ : Type} {m : M α} {m' : M β} {f : α → M γ} {f' : β → M δ} {P : α → β → Prop} {Q : γ → δ → Prop} (h : Rel m m' P) (g : ∀ x x', P x x' → Rel (f x) (f' x') Q) : Rel (M.bind m f) (M.bind m' f') Q := by
  obtain ⟨x, x', h1, h2, p⟩ := h
  obtain ⟨r, r', g1, g2, q⟩ := g x x' p
  exact ⟨r, r', M.Conv_bind h1 g1, M.Conv_bind h2 g2, q⟩
theorem Rel.left {α γ δ : Type} {m : M α} {f : α → M γ} {m' : M δ} {Q : γ → δ → Prop} {x : α} (h : M.Conv m x) (g : Rel (f x) m' Q) : Rel (M.bind m f) m' Q := by
  obtain ⟨r, r', g1, g2, q⟩ := g
  exact ⟨r, r', M.Conv_bind h g1, g2, q⟩
theorem Rel.right {α γ δ : Type} {m : M α} {f : α → M γ} {m' : M δ} {Q : δ → γ → Prop} {x : α} (h : M.Conv m x) (g : Rel m' (f x) Q) : Rel m' (M.bind m f) Q := by
  obtain ⟨r, r', g1, g2, q⟩ := g
  exact ⟨r, r', g1, M.Conv_bind h g2, q⟩
theorem Rel.two {α : Type} {m m' : M α} {P : α → Prop} (h : Rel m m' fun x y => x = y ∧ P x) : Two m m' P := by
  obtain ⟨r, r', h1, h2, rfl, p⟩ := h
  exact ⟨r, h1, h2, p⟩
theorem Rel.iteL {α β : Type} {b : Bool} {x y : M α} {m' : M β} {Q : α → β → Prop} (h1 : b = true → Rel x m' Q) (h2 : b = false → Rel y m' Q) : Rel (M.ite b x y) m' Q := by
  cases b
  · obtain ⟨r, r', g1, g2, q⟩ := h2 rfl
    exact ⟨r, r', M.Conv_ite (fun t => by simp at t) (fun _ => g1), g2, q⟩
  · obtain ⟨r, r', g1, g2, q⟩ := h1 rfl
    exact ⟨r, r', M.Conv_ite (fun _ => g1) (fun t => by simp at t), g2, q⟩
theorem Rel.iteR {α β : Type} {b : Bool} {x y : M β} {m' : M α} {Q : α → β → Prop} (h1 : b = true → Rel m' x Q) (h2 : b = false → Rel m' y Q) : Rel m' (M.ite b x y) Q := by
  cases b
  · obtain ⟨r, r', g1, g2, q⟩ := h2 rfl
    exact ⟨r, r', g1, M.Conv_ite (fun t => by simp at t) (fun _ => g2), q⟩
  · obtain ⟨r, r', g1, g2, q⟩ := h1 rfl
    exact ⟨r, r', g1, M.Conv_ite (fun _ => g2) (fun t => by simp at t), q⟩
theorem Rel.ite {α β : Type} {b b' : Bool} {x y : M α} {x' y' : M β} {Q : α → β → Prop} (e : b = b') (h1 : b = true → Rel x x' Q) (h2 : b = false → Rel y y' Q) : Rel (M.ite b x y) (M.ite b' x' y') Q := by
  subst e
  exact Rel.iteL (fun t => Rel.iteR (fun _ => h1 t) (fun t' => by rw [t] at t'; cases t')) (fun t => Rel.iteR (fun t' => by rw [t] at t'; cases t') (fun _ => h2 t))
theorem Rel.ret {α β : Type} {x : α} {y : β} {Q : α → β → Prop} (q : Q x y) : Rel (M.ret x) (M.ret y) Q := ⟨x, y, M.Conv_ret _, M.Conv_ret _, q⟩
/-- one round of two loops: both go on, or both stop -/
def Round {σ σ' ρ ρ' : Type} (R : σ → σ' → Prop) (Q : ρ → ρ' → Prop) (y : σ ⊕ ρ) (y' : σ' ⊕ ρ') : Prop := (∃ t t', y = .inl t ∧ y' = .inl t' ∧ R t t') ∨ (∃ r r', y = .inr r ∧ y' = .inr r' ∧ Q r r')
theorem Round.on {σ σ' ρ ρ' : Type} {R : σ → σ' → Prop} {Q : ρ → ρ' → Prop} {t : σ} {t' : σ'} (h : R t t') : Round R Q (.inl t) (.inl t') := .inl ⟨t, t', rfl, rfl, h⟩
theorem Rel.for {σ σ' ρ ρ' : Type} {n : Nat} {f : Int → σ → M (σ ⊕ ρ)} {f' : Int → σ' → M (σ' ⊕ ρ')} {fin : σ → ρ} {fin' : σ' → ρ'} {s : σ} {s' : σ'} {Q : ρ → ρ' → Prop} (R : Nat → σ → σ' → Prop) (hn : n ≤ 9223372036854775807) (h0 : R 0 s s')
    (step : ∀ (i : Nat) t t', i < n → R i t t' → Rel (f i t) (f' i t') (Round (R (i + 1)) Q)) (stop : ∀ t t', R n t t' → Q (fin t) (fin' t')) : Rel (M.forI 0 (n : Int) fin f s) (M.forI 0 (n : Int) fin' f' s') Q := by
  have H : ∀ (d i : Nat) t t', i + d = n → R i t t' → ∃ r r', (∃ N, ∀ m, N ≤ m → M.forN (n : Int) fin f m d (i : Int) t = some r) ∧ (∃ N, ∀ m, N ≤ m → M.forN (n : Int) fin' f' m d (i : Int) t' = some r') ∧ Q r r' := by
    intro d
    induction d with
    | zero =>
      intro i t t' e hR
      obtain rfl : i = n := by omega
      exact ⟨fin t, fin' t', ⟨0, fun m _ => by simp [M.forN]⟩, ⟨0, fun m _ => by simp [M.forN]⟩, stop t t' hR⟩
    | succ d ih =>
      intro i t t' e hR
      have hlt : (i : Int) < n := by omega
      obtain ⟨y, y', ⟨N, hy⟩, ⟨N', hy'⟩, hc⟩ := step i t t' (by omega) hR
      rcases hc with ⟨u, u', rfl, rfl, hR⟩ | ⟨r, r', rfl, rfl, hq⟩
      · obtain ⟨r, r', ⟨K, hr⟩, ⟨K', hr'⟩, hq⟩ := ih (i + 1) u u' (by omega) hR
        rw [Int.natCast_add] at hr hr'
        refine ⟨r, r', ⟨max N K, fun m hm => ?_⟩, ⟨max N' K', fun m hm => ?_⟩, hq⟩
        · simp [M.forN, hlt, hy m (by omega)]; exact hr m (by omega)
        · simp [M.forN, hlt, hy' m (by omega)]; exact hr' m (by omega)
      · exact ⟨r, r', ⟨N, fun m hm => by simp [M.forN, hlt, hy m hm]⟩, ⟨N', fun m hm => by simp [M.forN, hlt, hy' m hm]⟩, hq⟩
  obtain ⟨r, r', ⟨N, h1⟩, ⟨N', h2⟩, q⟩ := H n 0 s s' (by omega) h0
  refine ⟨r, r', ⟨N, fun m hm => ?_⟩, ⟨N', fun m hm => ?_⟩, q⟩
  · have := h1 m hm; have hn' : (n : Int) ≤ 9223372036854775807 := by omega
    simp [M.forI, hn']; exact this
  · have := h2 m hm; have hn' : (n : Int) ≤ 9223372036854775807 := by omega
    simp [M.forI, hn']; exact this
/-- a loop with a round count on the left, any loop on the right -/
theorem Rel.loop {σ σ' ρ ρ' : Type} {f : σ → M (σ ⊕ ρ)} {f' : σ' → M (σ' ⊕ ρ')} {s : σ} {s' : σ'} {Q : ρ → ρ' → Prop} (R : σ → σ' → Prop) (μ : σ → Nat) (h0 : R s s')
    (step : ∀ t t', R t t' → Rel (f t) (f' t') (Round (fun u u' => R u u' ∧ μ u < μ t) Q)) : Rel (M.loop f s) (M.loop f' s') Q := by
  have H : ∀ (d : Nat) t t', μ t < d → R t t' → ∃ r r', ConvL f t r ∧ ConvL f' t' r' ∧ Q r r' := by
    intro d
    induction d with
    | zero => intro t t' h; omega
    | succ d ih =>
      intro t t' h hR
      obtain ⟨y, y', hy, hy', hc⟩ := step t t' hR
      rcases hc with ⟨u, u', rfl, rfl, hR, hlt⟩ | ⟨r, r', rfl, rfl, hq⟩
      · obtain ⟨r, r', k1, k2, q⟩ := ih u u' (by omega) hR
        exact ⟨r, r', k1.step hy, k2.step hy', q⟩
      · exact ⟨r, r', ConvL.stop hy, ConvL.stop hy', hq⟩
  obtain ⟨r, r', h1, h2, q⟩ := H (μ s + 1) s s' (by omega) h0
  exact ⟨r, r', h1.conv, h2.conv, q⟩

theorem Conv_check {ρ : Type} {n lo : Nat} {f : Int → Unit → M (Unit ⊕ (Unit ⊕ ρ))} (P : Nat → Prop) (v : ρ) (hn : n ≤ 9223372036854775807)
    (h : ∀ i : Nat, lo ≤ i → i < n → (P i ∧ M.Conv (f i ()) (.inl ())) ∨ (¬ P i ∧ M.Conv (f i ()) (.inr (.inr v)))) :
    ((∀ i, lo ≤ i → i < n → P i) ∧ M.Conv (M.forI (lo : Int) (n : Int) (fun s => .inl s) f ()) (.inl ())) ∨ ((∃ i, lo ≤ i ∧ i < n ∧ ¬ P i) ∧ M.Conv (M.forI (lo : Int) (n : Int) (fun s => .inl s) f ()) (.inr v)) := by
  have H : M.TC (M.forI (lo : Int) (n : Int) (fun s => .inl s) f ()) (fun r => ((∀ i, lo ≤ i → i < n → P i) ∧ r = .inl ()) ∨ ((∃ i, lo ≤ i ∧ i < n ∧ ¬ P i) ∧ r = .inr v)) := by
    refine M.TC_for (fun i _ => ∀ k : Nat, lo ≤ k → (k : Int) < i → P k) () (by omega) (by omega) (fun k h1 h2 => by omega) (fun i s h1 h2 hI => ?_) (fun i s hi hI => ?_)
    · obtain ⟨k, rfl⟩ : ∃ k : Nat, i = (k : Int) := ⟨i.toNat, by omega⟩
      rcases h k (by omega) (by omega) with ⟨hp, hc⟩ | ⟨hp, hc⟩
      · refine hc.tc (.inl ⟨(), rfl, fun q h3 h4 => ?_⟩)
        by_cases e : q = k
        · subst e; exact hp
        · exact hI q h3 (by omega)
      · exact hc.tc (.inr ⟨.inr v, rfl, .inr ⟨⟨k, by omega, by omega, hp⟩, rfl⟩⟩)
    · rcases hi with rfl | ⟨rfl, hle⟩
      · exact .inl ⟨fun q h1 h2 => hI q h1 (by omega), rfl⟩
      · exact .inl ⟨fun q h1 h2 => by omega, rfl⟩
  obtain ⟨r, hr, ⟨h1, rfl⟩ | ⟨h1, rfl⟩⟩ := H
  · exact .inl ⟨h1, hr⟩
  · exact .inr ⟨h1, hr⟩
def nd (l : List Int) (i : Nat) : Int := (l[i]?).getD 0
theorem nd_read {l : List Int} {i : Nat} (h : i < l.length) : M.Conv (M.idx l (i : Int)) (nd l i) := by
  have : l[i]? = some (l[i]'h) := List.getElem?_eq_getElem _
  refine M.Conv_idx ?_
  unfold nd; rw [this]; rfl
def OkNodes (n : Nat) (l : List Int) : Prop := ∀ i, i < l.length → (0 ≤ nd l i ∧ nd l i ≤ (n : Int) - 1) ∧ (0 < i → nd l (i - 1) < nd l i)
theorem OkNodes.len {n : Nat} {l : List Int} (h : OkNodes n l) : l.length ≤ n := by
  have key : ∀ i, i < l.length → (i : Int) ≤ nd l i := by
    intro i
    induction i with
    | zero => intro hi; have := (h 0 hi).1; omega
    | succ i ih => intro hi; have := (h (i + 1) hi).2 (by omega); have := ih (by omega); simp only [Nat.add_sub_cancel] at *; omega
  by_cases e : l.length = 0
  · omega
  · have := key (l.length - 1) (by omega)
    have := (h (l.length - 1) (by omega)).1
    omega
def bitsL (s : Nat) : Nat → List Int
  | 0 => []
  | m + 1 => bif bitN s m == 1 then bitsL s m ++ [(m : Int)] else bitsL s m
theorem bitsL_len (s : Nat) : ∀ m, (bitsL s m).length ≤ m
  | 0 => by simp [bitsL]
  | m + 1 => by have := bitsL_len s m; unfold bitsL; cases (bitN s m == 1) <;> simp <;> omega
theorem bitsL_ok (s : Nat) : ∀ m, OkNodes m (bitsL s m)
  | 0 => fun i h => by simp [bitsL] at h
  | m + 1 => by
    have ih := bitsL_ok s m
    unfold bitsL
    cases (bitN s m == 1) with
    | false => intro i hi; simp only [cond_false] at hi ⊢; have := ih i hi; exact ⟨⟨this.1.1, by omega⟩, this.2⟩
    | true =>
      intro i hi
      simp only [cond_true, List.length_append, List.length_cons, List.length_nil] at hi ⊢
      have hnd : ∀ k, k < (bitsL s m).length → nd (bitsL s m ++ [(m : Int)]) k = nd (bitsL s m) k := fun k hk => by unfold nd; rw [List.getElem?_append_left hk]
      by_cases e : i < (bitsL s m).length
      · have := ih i e
        rw [hnd i e]
        refine ⟨⟨this.1.1, by omega⟩, fun h0 => ?_⟩
        rw [hnd (i - 1) (by omega)]
        exact this.2 h0
      · obtain rfl : i = (bitsL s m).length := by omega
        have hl : nd (bitsL s m ++ [(m : Int)]) (bitsL s m).length = m := by unfold nd; rw [List.getElem?_append_right (Nat.le_refl _)]; simp
        rw [hl]
        refine ⟨⟨by omega, by omega⟩, fun h0 => ?_⟩
        rw [hnd _ (by omega)]
        have := (ih ((bitsL s m).length - 1) (by omega)).1
        omega
theorem bitsU {s n : Nat} (hs : s < 1024) (hn : n ≤ 10) {f : Int → List Int → M (List Int ⊕ List Int)} (h : ∀ (i : Nat) (t : List Int), i < n → t.length ≤ 10 → M.Conv (f i t) (.inl (bif bitN s i == 1 then t ++ [(i : Int)] else t))) : M.Conv (M.forI 0 (n : Int) (fun s => s) f []) (bitsL s n) :=
  Conv_forV (fun i => bitsL s i) (by omega) fun i hi => by
    have := bitsL_len s i
    exact (h i (bitsL s i) hi (by omega)).of rfl
theorem get_row' {l : List Int} {i : Nat} {x : Int} (h : l[i]? = some x) : M.Conv (M.idx l (i : Int)) x := M.Conv_idx h
theorem Conv_forK {σ ρ : Type} {n k : Nat} {f : Int → σ → M (σ ⊕ ρ)} {fin : σ → ρ} {r : ρ} (st : Nat → σ) (hn : n ≤ 9223372036854775807) (hk : k ≤ n) (h : ∀ i, i < k → M.Conv (f i (st i)) (.inl (st (i + 1))))
    (hs : k < n → M.Conv (f k (st k)) (.inr r)) (he : k = n → fin (st k) = r) : M.Conv (M.forI 0 (n : Int) fin f (st 0)) r := by
  apply M.TC.conv
  refine M.TC_for (fun i s => ∃ q : Nat, i = (q : Int) ∧ q ≤ k ∧ s = st q) _ (by omega) (by omega) ⟨0, rfl, by omega, rfl⟩ (fun i s h1 h2 hI => ?_) (fun i s hi hI => ?_)
  · obtain ⟨q, rfl, hq, rfl⟩ := hI
    by_cases e : q < k
    · exact (h q e).tc (.inl ⟨_, rfl, q + 1, by omega, by omega, rfl⟩)
    · obtain rfl : q = k := by omega
      exact (hs (by omega)).tc (.inr ⟨_, rfl, rfl⟩)
  · obtain ⟨q, rfl, hq, rfl⟩ := hI
    obtain rfl : q = k := by omega
    exact he (by omega)
theorem first_diff (a b : List Int) : ∀ n, ∃ k, k ≤ n ∧ (∀ i, i < k → nd a i = nd b i) ∧ (k < n → nd a k ≠ nd b k)
  | 0 => ⟨0, by omega, fun i h => by omega, fun h => by omega⟩
  | n + 1 => by
    obtain ⟨k, h1, h2, h3⟩ := first_diff a b n
    by_cases e : k < n
    · exact ⟨k, by omega, h2, fun _ => h3 e⟩
    · obtain rfl : k = n := by omega
      by_cases q : nd a k = nd b k
      · exact ⟨k + 1, by omega, fun i hi => by
          by_cases z : i = k
          · subst z; exact q
          · exact h2 i (by omega), fun h => by omega⟩
      · exact ⟨k, by omega, h2, fun _ => q⟩
theorem cmp_ok (x y : Int) : M.Conv (cmp_Compare_i x y) (bif decide (x < y) then -1 else bif decide (y < x) then 1 else 0) := by
  unfold cmp_Compare_i
  have hn : ∀ z : Int, M.Conv (cmp_isNaN_i z) false := fun z => (M.Conv_ret _).of (by simp)
  exact M.Conv_bind (hn x) (M.Conv_bind (hn y) (M.Conv_ite (fun t => by cases t) (fun _ => M.Conv_ite (fun t => by cases t) (fun _ => M.Conv_ite2 (fun _ => M.Conv_ret _) (fun _ => M.Conv_ite2 (fun _ => M.Conv_ret _) (fun _ => M.Conv_ret _))))))
theorem less_ok {a b : List Int} (hl : a.length = b.length) (hle : a.length ≤ 1099511627776) : ∃ v : Bool, M.Conv (spec_l01Less a b) v ∧ M.Conv (M.bind (slices_Compare_int a b) (fun x7 => M.ret (decide (x7 < 0)))) v := by
  obtain ⟨k, h1, h2, h3⟩ := first_diff a b a.length
  refine ⟨decide (k < a.length) && decide (nd a k < nd b k), ?_, ?_⟩
  · unfold spec_l01Less
    refine M.Conv_bind (x := (bif decide (k < a.length) then .inr (decide (nd a k < nd b k)) else .inl (k : Int))) ?_ ?_
    · refine conv_up0 (fun i => (i : Int)) (n := k) (k0 := 0) rfl (by omega) (fun i _ hi => ?_) ?_
      · refine M.Conv_ite (fun _ => M.Conv_bind (nd_read (by omega)) (M.Conv_bind (nd_read (by omega)) (M.Conv_ite (fun t => ?_) (fun _ => (M.Conv_ret _).of ?_)))) (fun t => ?_)
        · rw [h2 i hi] at t; simp at t
        · rw [w64_eq _ (by omega)]; simp
        · exfalso; revert t; simp; omega
      · by_cases e : k < a.length
        · rw [decide_eq_true e]
          refine M.Conv_ite (fun _ => M.Conv_bind (nd_read e) (M.Conv_bind (nd_read (by omega)) (M.Conv_ite (fun _ => M.Conv_bind (nd_read e) (M.Conv_bind (nd_read (by omega)) (M.Conv_ret _))) (fun t => ?_)))) (fun t => ?_)
          · exact absurd (by simpa using t) (h3 e)
          · exfalso; revert t; simp; omega
        · rw [decide_eq_false e]
          refine M.Conv_ite (fun t => ?_) (fun _ => M.Conv_ret _)
          exfalso; revert t; simp; omega
    · by_cases e : k < a.length
      · rw [decide_eq_true e]; exact M.Conv_ret _
      · rw [decide_eq_false e]; exact (M.Conv_ret _).of (by simp [hl])
  · unfold slices_Compare_int
    refine M.Conv_bind (x := bif decide (k < a.length) then (bif decide (nd a k < nd b k) then -1 else bif decide (nd b k < nd a k) then 1 else 0) else 0) (M.Conv_bind (x := (bif decide (k < a.length) then .inr (bif decide (nd a k < nd b k) then -1 else bif decide (nd b k < nd a k) then 1 else 0) else .inl ())) ?_ ?_) ((M.Conv_ret _).of ?_)
    · refine Conv_forK (fun _ => ()) (k := k) (by omega) h1 (fun i hi => ?_) (fun e => ?_) (fun e => ?_)
      · refine M.Conv_bind (nd_read (by omega)) (M.Conv_ite (fun t => by simp at t; omega) (fun _ => M.Conv_bind (nd_read (by omega)) (M.Conv_bind (cmp_ok _ _) ?_)))
        rw [h2 i hi]
        simp only [Int.lt_irrefl, decide_false, cond_false]
        exact M.Conv_ite (fun t => by simp at t) (fun _ => M.Conv_ret _)
      · rw [decide_eq_true e]
        refine M.Conv_bind (nd_read e) (M.Conv_ite (fun t => by simp at t; omega) (fun _ => M.Conv_bind (nd_read (by omega)) (M.Conv_bind (cmp_ok _ _) (M.Conv_ite (fun _ => M.Conv_ret _) (fun t => ?_)))))
        exfalso
        have hne := h3 e
        by_cases q : nd a k < nd b k
        · rw [decide_eq_true q] at t; simp at t
        · rw [decide_eq_false q, decide_eq_true (show nd b k < nd a k by omega)] at t; simp at t
      · rw [decide_eq_false (by omega)]; rfl
    · by_cases e : k < a.length
      · rw [decide_eq_true e]; exact M.Conv_ret _
      · rw [decide_eq_false e]; exact M.Conv_ite (fun t => by simp [hl] at t) (fun _ => M.Conv_ret _)
    · by_cases e : k < a.length
      · rw [decide_eq_true e]
        by_cases q : nd a k < nd b k
        · rw [decide_eq_true q]; rfl
        · rw [decide_eq_false q]; cases decide (nd b k < nd a k) <;> rfl
      · rw [decide_eq_false e]; rfl
def hitB (a : List (List Int)) (b x : List Int) (i : Nat) (j : Int) : Bool := timesI (entA a i j.toNat) (nd x j.toNat) == nd b i
def covB (a : List (List Int)) (b x : List Int) (l : List Int) (i : Nat) : Bool := (nd b i == (-1000000000000000)) || l.any (hitB a b x i)
theorem cov_same {a : List (List Int)} {b x l : List Int} {w : Nat} (hm : Mat a w) (hb : b.length = a.length) (hx : x.length = w) (hl : OkNodes w l) :
    ∃ v : Bool, M.Conv (spec_l08Covers a b x l) v ∧ M.Conv (impl_coversVector a b x l) v := by
  have hr := hm.rows
  have hc := hm.cols
  have hll := hl.len
  have rd : ∀ (i : Nat) (q : Nat) (j : Int), i < b.length → l[q]? = some j → ∃ r, M.Conv (M.idx a (i : Int)) r ∧ M.Conv (M.idx r j) (entA a i j.toNat) ∧ M.Conv (M.idx x j) (nd x j.toNat) := by
    intro i q j hi hq
    have hq' := (List.getElem?_eq_some_iff.1 hq).1
    have hj := (hl q hq').1
    have e : nd l q = j := by unfold nd; rw [hq]; rfl
    rw [e] at hj
    obtain ⟨r, c1, _, c2⟩ := ent_read hm.shp (i := i) (j := j.toNat) (by omega) (by omega)
    have c3 := nd_read (l := x) (i := j.toNat) (by omega)
    rw [Int.toNat_of_nonneg hj.1] at c2 c3
    exact ⟨r, c1, c2, c3⟩
  have hS := Conv_check (ρ := Bool) (n := b.length) (lo := 0) (f := (fun i1 => (fun (_ : Unit) => M.bind (M.idx b i1) (fun x2 => M.bind (M.forI 0 (l.length : Int) (fun s => s) (fun i2 => (fun (s3 : Bool) => M.bind (M.ite s3 (M.ret true) (M.bind (M.idx a i1) (fun x5 => M.bind (M.idx l i2) (fun x6 => M.bind (M.idx x5 x6) (fun x7 => M.bind (M.idx l i2) (fun x8 => M.bind (M.idx x x8) (fun x9 => M.bind (spec_l01Times x7 x9) (fun x10 => M.bind (M.idx b i1) (fun x11 => M.ret (x10 == x11)))))))))) (fun x4 => M.ret (.inl x4)))) (x2 == (-1000000000000000))) (fun x3 => M.ite (!x3) (M.ret (.inr (.inr false))) (M.ret (.inl ()))))))) (fun i => covB a b x l i = true) false (by omega) (fun i _ hi => by
    have inner : M.Conv (M.forI 0 (l.length : Int) (fun s => s) (fun i2 => (fun (s3 : Bool) => M.bind (M.ite s3 (M.ret true) (M.bind (M.idx a (i : Int)) (fun x5 => M.bind (M.idx l i2) (fun x6 => M.bind (M.idx x5 x6) (fun x7 => M.bind (M.idx l i2) (fun x8 => M.bind (M.idx x x8) (fun x9 => M.bind (spec_l01Times x7 x9) (fun x10 => M.bind (M.idx b (i : Int)) (fun x11 => M.ret (x10 == x11)))))))))) (fun x4 => M.ret (.inl x4)))) (nd b i == (-1000000000000000))) (covB a b x l i) := by
      refine (M.Conv_fold (l := l) (fun s j => s || hitB a b x i j) (by omega) (fun q j s hq => ?_)).of ?_
      · obtain ⟨r, c1, c2, c3⟩ := rd i q j hi hq
        exact M.Conv_bind (Conv_or fun _ => M.Conv_bind c1 (M.Conv_bind (get_row' hq) (M.Conv_bind c2 (M.Conv_bind (get_row' hq) (M.Conv_bind c3 (M.Conv_bind (spec_l01Times_ok _ _) (M.Conv_bind (nd_read hi) (M.Conv_ret _)))))))) (M.Conv_ret _)
      · have g : ∀ (l : List Int) (s : Bool), l.foldl (fun s j => s || hitB a b x i j) s = (s || l.any (hitB a b x i)) := by
          intro l
          induction l with
          | nil => intro s; simp
          | cons y ys ih => intro s; rw [List.foldl_cons, ih, List.any_cons, Bool.or_assoc]
        exact g l _
    cases hcv : covB a b x l i with
    | true => exact .inl ⟨rfl, M.Conv_bind (nd_read hi) (M.Conv_bind inner (by rw [hcv]; exact M.Conv_ite (fun t => by simp at t) (fun _ => M.Conv_ret _)))⟩
    | false => exact .inr ⟨by simp, M.Conv_bind (nd_read hi) (M.Conv_bind inner (by rw [hcv]; exact M.Conv_ite (fun _ => M.Conv_ret _) (fun t => by simp at t)))⟩)
  have hI := Conv_check (ρ := Bool) (n := b.length) (lo := 0) (f := (fun i1 => (fun (_ : Unit) => M.bind (M.idx b i1) (fun x2 => M.bind (M.ite (x2 != (-1000000000000000)) (M.bind (slices_ContainsFunc_int_F_impl_coversVector_1 l a i1 x x2) (fun x4 => M.ret (!x4))) (M.ret false)) (fun x3 => M.ite x3 (M.ret (.inr (.inr false))) (M.ret (.inl ()))))))) (fun i => covB a b x l i = true) false (by omega) (fun i _ hi => by
    have hcon : M.Conv (slices_ContainsFunc_int_F_impl_coversVector_1 l a (i : Int) x (nd b i)) (l.any (hitB a b x i)) := by
      unfold slices_ContainsFunc_int_F_impl_coversVector_1 slices_IndexFunc_int_F_impl_coversVector_1
      refine contains_ok (hitB a b x i) (by omega) fun q j hq => ?_
      obtain ⟨r, c1, c2, c3⟩ := rd i q j hi hq
      refine M.Conv_bind (get_row' hq) (M.Conv_bind (x := hitB a b x i j) (M.Conv_bind c1 (M.Conv_bind c2 (M.Conv_bind c3 (M.Conv_bind (impl_times_ok _ _) (M.Conv_ret _))))) ?_)
      cases hitB a b x i j <;> exact M.Conv_ret _
    have h2 : M.Conv (M.ite (nd b i != (-1000000000000000)) (M.bind (slices_ContainsFunc_int_F_impl_coversVector_1 l a (i : Int) x (nd b i)) (fun x4 => M.ret (!x4))) (M.ret false)) (!(covB a b x l i)) := by
      unfold covB
      refine M.Conv_ite (fun t => M.Conv_bind hcon ((M.Conv_ret _).of ?_)) (fun t => (M.Conv_ret _).of ?_)
      · rw [show (nd b i == (-1000000000000000)) = false by simpa using t, Bool.false_or]
      · rw [show (nd b i == (-1000000000000000)) = true by simpa using t]; rfl
    cases hcv : covB a b x l i with
    | true => rw [hcv] at h2; exact .inl ⟨rfl, M.Conv_bind (nd_read hi) (M.Conv_bind h2 (M.Conv_ite (fun t => by simp at t) (fun _ => M.Conv_ret _)))⟩
    | false => rw [hcv] at h2; exact .inr ⟨by simp, M.Conv_bind (nd_read hi) (M.Conv_bind h2 (M.Conv_ite (fun _ => M.Conv_ret _) (fun t => by simp at t)))⟩)
  rcases hS with ⟨h1, h2⟩ | ⟨⟨i, hi1, hi2, hi3⟩, h2⟩
  · rcases hI with ⟨_, k2⟩ | ⟨⟨i, hi1, hi2, hi3⟩, _⟩
    · exact ⟨true, M.Conv_bind h2 (M.Conv_ret _), M.Conv_bind k2 (M.Conv_ret _)⟩
    · exact absurd (h1 i hi1 hi2) hi3
  · rcases hI with ⟨k1, _⟩ | ⟨_, k2⟩
    · exact absurd (k1 i hi1 hi2) hi3
    · exact ⟨false, M.Conv_bind h2 (M.Conv_ret _), M.Conv_bind k2 (M.Conv_ret _)⟩
theorem M.Conv_bind_assoc {α β γ : Type} {m : M α} {f : α → M β} {g : β → M γ} {x : α} {r : γ} (h : M.Conv m x) (h' : M.Conv (M.bind (f x) g) r) : M.Conv (M.bind (M.bind m f) g) r := by
  obtain ⟨N, h⟩ := h
  obtain ⟨N', h'⟩ := h'
  refine ⟨max N N', fun n hn => ?_⟩
  have := h' n (by omega)
  simp only [M.bind, h n (by omega)] at this ⊢
  exact this
theorem seq_of {σ : Type} (P : Nat → σ → σ → Prop) (I : Nat → σ → Prop) (s0 : σ) (h0 : I 0 s0) : ∀ K : Nat, (∀ k s, k < K → I k s → ∃ s', P k s s' ∧ I (k + 1) s') → ∃ st : Nat → σ, st 0 = s0 ∧ (∀ k, k < K → P k (st k) (st (k + 1))) ∧ (∀ k, k ≤ K → I k (st k))
  | 0, _ => ⟨fun _ => s0, rfl, fun k h => by omega, fun k h => (show k = 0 by omega) ▸ h0⟩
  | K + 1, h => by
    obtain ⟨st, e, h1, h2⟩ := seq_of P I s0 h0 K (fun k s hk => h k s (by omega))
    obtain ⟨s', p, i⟩ := h K (st K) (by omega) (h2 K (Nat.le_refl _))
    refine ⟨fun k => if k ≤ K then st k else s', by simp [e], fun k hk => ?_, fun k hk => ?_⟩
    · show P k (if k ≤ K then st k else s') (if k + 1 ≤ K then st (k + 1) else s')
      by_cases q : k = K
      · subst q; rw [if_pos (Nat.le_refl _), if_neg (by omega)]; exact p
      · rw [if_pos (by omega), if_pos (by omega)]; exact h1 k (by omega)
    · show I k (if k ≤ K then st k else s')
      by_cases q : k = K + 1
      · subst q; rw [if_neg (by omega)]; exact i
      · rw [if_pos (by omega)]; exact h2 k (by omega)
theorem same_LeastCover (a : List (List Int)) (_ : fitL (fitL inI64) a) (b : List Int) (_ : fitL inI64 b) (sa : smII a) (sb : smI b) : Two (spec_LeastCover a b) (impl_LeastCover a b) (fun w => smI w.1) := by
  have s0 : smI ([] : List Int) := by simp [smI]
  unfold spec_LeastCover impl_LeastCover
  rcases resid_cases sa sb with ⟨code, hc, h1, h2⟩ | ⟨h1, h2, h3, h4⟩
  · exact Two.left h1 (Two.right h2 (Two.iteL (fun _ => Two.iteR (fun _ => Two.ret _ s0) (fun t => by rw [ne0 hc] at t; cases t)) (fun t => by rw [ne0 hc] at t; cases t)))
  have hm := h4.mat
  have hr := hm.rows
  have hcl := hm.cols
  have hbl := h4.len
  have hxl : (subL a b).length = widthN a := subL_len a b
  refine Two.left h1 (Two.right h2 (Two.iteL (fun t => by simp at t) (fun _ => Two.iteR (fun t => by simp at t) (fun _ => ?_))))
  refine Two.left h3 (Two.bindC (spec_l02Apply_ok hm hxl) (impl_timesVector_ok hm hxl) ?_)
  refine Two.bindC (spec_l01Same_ok (by simp; omega)) (slices_Equal_int_ok (by simp; omega)) (Two.ite (fun _ => Two.ret _ s0) (fun _ => ?_))
  simp only
  generalize subL a b = x at hxl
  obtain ⟨hshU, hsh, hN, hN1, hwr⟩ := pow_ok (n := x.length) (by omega)
  unfold impl_leastCover
  rw [hshU, hsh]
  have hok : ∀ s, OkNodes (widthN a) (bitsL s x.length) := fun s => by rw [hxl]; exact bitsL_ok s _
  obtain ⟨st, e0, hst, hI⟩ := seq_of (σ := List Int × Bool) (fun k s s' =>
      M.Conv (M.bind (M.ite ((!s.2) || (decide (((bitsL k x.length).length : Int) < (s.1.length : Int)))) (M.ret true) (M.bind (M.ite (((bitsL k x.length).length : Int) == (s.1.length : Int)) (M.bind (spec_l01Less (bitsL k x.length) s.1) (fun x10 => M.ret x10)) (M.ret false)) (fun x9 => M.ret x9))) (fun x8 => M.bind (M.ite x8 (M.bind (spec_l08Covers a b x (bitsL k x.length)) (fun x12 => M.ret x12)) (M.ret false)) (fun x11 => M.bind (M.ite x11 (M.ret ((bitsL k x.length), true)) (M.ret (s.1, s.2))) (fun (s4 : (List Int) × Bool) => M.ret (Sum.inl (s4.1, s4.2, (w64 ((k : Int) + 1))) : ((List Int) × Bool × Int) ⊕ ((List Int) × Bool × Int)))))) (.inl (s'.1, s'.2, ((k + 1 : Nat) : Int))) ∧
      M.Conv (M.bind (M.bind (impl_coversVector a b x (bitsL k x.length)) (fun x3 => M.ite (!x3) (M.ret (s.1, s.2)) (M.bind (M.ite ((!s.2) || (decide (((bitsL k x.length).length : Int) < (s.1.length : Int)))) (M.ret true) (M.bind (M.ite (((bitsL k x.length).length : Int) == (s.1.length : Int)) (M.bind (slices_Compare_int (bitsL k x.length) s.1) (fun x7 => M.ret (decide (x7 < 0)))) (M.ret false)) (fun x6 => M.ret x6))) (fun x5 => M.ite x5 (M.ret ((bitsL k x.length), true)) (M.ret (s.1, s.2)))))) (fun (s2 : (List Int) × Bool) => M.ret (Sum.inl (s2.1, s2.2) : ((List Int) × Bool) ⊕ ((List Int) × Bool)))) (.inl s'))
    (fun _ s => s.1.length ≤ 10) ([], false) (by simp) (2 ^ x.length) (fun k s hk hs => by
      obtain ⟨vc, c1, c2⟩ := cov_same hm (b := b) (x := x) (l := bitsL k x.length) hbl hxl (hok k)
      have hbk := bitsL_len k x.length
      have hl : ∃ vl : Bool, M.Conv (M.ite (((bitsL k x.length).length : Int) == (s.1.length : Int)) (M.bind (spec_l01Less (bitsL k x.length) s.1) (fun x10 => M.ret x10)) (M.ret false)) vl ∧ M.Conv (M.ite (((bitsL k x.length).length : Int) == (s.1.length : Int)) (M.bind (slices_Compare_int (bitsL k x.length) s.1) (fun x7 => M.ret (decide (x7 < 0)))) (M.ret false)) vl := by
        by_cases e : (bitsL k x.length).length = s.1.length
        · obtain ⟨v, v1, v2⟩ := less_ok e (by omega)
          exact ⟨v, M.Conv_ite (fun _ => M.Conv_bind v1 (M.Conv_ret _)) (fun t => by simp [e] at t), M.Conv_ite (fun _ => v2) (fun t => by simp [e] at t)⟩
        · exact ⟨false, M.Conv_ite (fun t => by simp at t; omega) (fun _ => M.Conv_ret _), M.Conv_ite (fun t => by simp at t; omega) (fun _ => M.Conv_ret _)⟩
      obtain ⟨vl, l1, l2⟩ := hl
      have hnew : ((k : Int) + 1) = ((k + 1 : Nat) : Int) := by omega
      refine ⟨bif vc && (((!s.2) || (decide (((bitsL k x.length).length : Int) < (s.1.length : Int)))) || vl) then (bitsL k x.length, true) else s, ⟨?_, ?_⟩, ?_⟩
      · refine M.Conv_bind (Conv_or fun _ => M.Conv_bind l1 (M.Conv_ret _)) ?_
        generalize (((!s.2) || (decide (((bitsL k x.length).length : Int) < (s.1.length : Int)))) || vl) = pre
        rw [w64_eq _ (by omega), hnew]
        refine M.Conv_bind (x := vc && pre) ?_ ?_
        · cases pre with
          | true => exact M.Conv_ite (fun _ => M.Conv_bind c1 ((M.Conv_ret _).of (by simp))) (fun t => by simp at t)
          | false => exact M.Conv_ite (fun t => by simp at t) (fun _ => (M.Conv_ret _).of (by simp))
        · exact M.Conv_bind (M.Conv_ite2 (fun _ => M.Conv_ret _) (fun _ => M.Conv_ret _)) (M.Conv_ret _)
      · refine M.Conv_bind (x := bif vc && (((!s.2) || (decide (((bitsL k x.length).length : Int) < (s.1.length : Int)))) || vl) then (bitsL k x.length, true) else s) (M.Conv_bind c2 ?_) (M.Conv_ret _)
        cases vc with
        | false => exact M.Conv_ite (fun _ => M.Conv_ret _) (fun t => by simp at t)
        | true =>
          refine M.Conv_ite (fun t => by simp at t) (fun _ => M.Conv_bind (Conv_or fun _ => M.Conv_bind l2 (M.Conv_ret _)) ?_)
          generalize (((!s.2) || (decide (((bitsL k x.length).length : Int) < (s.1.length : Int)))) || vl) = pre
          rw [Bool.true_and]
          exact M.Conv_ite2 (fun _ => M.Conv_ret _) (fun _ => M.Conv_ret _)
      · cases (vc && (((!s.2) || (decide (((bitsL k x.length).length : Int) < (s.1.length : Int)))) || vl))
        · exact hs
        · simp only [cond_true]; omega)
  have hnodesU : ∀ k : Nat, k < 2 ^ x.length → M.Conv (M.forI 0 (x.length : Int) (fun s => s) (fun i1 => (fun (s2 : (List Int)) => M.bind (M.guard (decide (0 ≤ (IntKind.u64.wrap (i1))))) (fun _ => M.bind (M.ite ((ibit .and .i64 (ishr .i64 (k : Int) (IntKind.u64.wrap (i1))) 1) == 1) (M.bind (M.app s2 ([i1] : List Int)) (fun l1 => M.ret l1)) (M.ret s2)) (fun (s3 : (List Int)) => M.ret (.inl s3))))) ([] : List Int)) (bitsL k x.length) := fun k hk =>
    bitsU (s := k) (by omega) (by omega) fun i t hi ht => by
      have hb := bit_ok (s := k) (j := i) (by omega) (by omega)
      refine M.Conv_bind (M.Conv_guard (by rw [hb.wrapU]; simp)) (M.Conv_bind (x := bif bitN k i == 1 then t ++ [(i : Int)] else t) ?_ (M.Conv_ret _))
      rw [hb.andU]
      refine M.Conv_ite (fun q => M.Conv_bind (M.Conv_app (by simp; omega)) ((M.Conv_ret _).of ?_)) (fun q => (M.Conv_ret _).of ?_)
      · rw [show (bitN k i == 1) = true by simp at q ⊢; omega]; rfl
      · rw [show (bitN k i == 1) = false by simp at q ⊢; omega]; rfl
  have hnodes : ∀ k : Nat, k < 2 ^ x.length → M.Conv (M.forI 0 (x.length : Int) (fun s => s) (fun i2 => (fun (s3 : (List Int)) => M.bind (M.guard (decide (0 ≤ i2))) (fun _ => M.bind (M.ite ((ibit .and .i64 (ishr .i64 (k : Int) i2) 1) == 1) (M.bind (M.app s3 ([i2] : List Int)) (fun l1 => M.ret l1)) (M.ret s3)) (fun (s4 : (List Int)) => M.ret (.inl s4))))) []) (bitsL k x.length) := fun k hk =>
    bitsU (s := k) (by omega) (by omega) fun i t hi ht => by
      have hb := bit_ok (s := k) (j := i) (by omega) (by omega)
      refine M.Conv_bind (M.Conv_guard (by simp)) (M.Conv_bind (x := bif bitN k i == 1 then t ++ [(i : Int)] else t) ?_ (M.Conv_ret _))
      rw [hb.and]
      refine M.Conv_ite (fun q => M.Conv_bind (M.Conv_app (by simp; omega)) ((M.Conv_ret _).of ?_)) (fun q => (M.Conv_ret _).of ?_)
      · rw [show (bitN k i == 1) = true by simp at q ⊢; omega]; rfl
      · rw [show (bitN k i == 1) = false by simp at q ⊢; omega]; rfl
  refine Two.left (x := ((st (2 ^ x.length)).1, (st (2 ^ x.length)).2, ((2 ^ x.length : Nat) : Int))) ?_ (Two.right (x := (st (2 ^ x.length)).1) ?_ (Two.ret _ (by have := hI _ (Nat.le_refl _); simp only [smI]; omega)))
  · refine conv_up0 (fun k => ((st k).1, (st k).2, (k : Int))) (n := 2 ^ x.length) (k0 := 0) (by rw [e0]; rfl) (by omega) (fun k _ hk => ?_) ?_
    · refine M.Conv_bind (M.Conv_guard (by simpa using hwr)) (M.Conv_ite (fun _ => M.Conv_bind (hnodesU k hk) (hst k hk).1) (fun t => by have := of_decide_eq_false t; simp only at this; omega))
    · refine M.Conv_bind (M.Conv_guard (by simpa using hwr)) (M.Conv_ite (fun t => by have := of_decide_eq_true t; simp only at this; omega) (fun _ => M.Conv_ret _))
  · refine M.Conv_bind (M.Conv_guard (by simp)) (M.Conv_bind (x := st (2 ^ x.length)) ?_ (M.Conv_ret _))
    rw [← e0]
    refine Conv_forV st (by omega) fun k hk => ?_
    have := (hst k hk).2
    refine M.Conv.of (M.Conv_bind_assoc (hnodes k hk) this) rfl

theorem FnExactLeastCover_ok (aA : List (List Int)) (gaA : fitL (fitL inI64) aA) (aB : List Int) (gaB : fitL inI64 aB) : M.Conv (laws_FnExactLeastCover aA aB) true := by
  unfold laws_FnExactLeastCover
  refine M.Conv_ite (fun _ => M.Conv_ret _) (fun qaB => ?_)
  have saB : smI aB := by have := of_decide_eq_false qaB; unfold smI; omega
  obtain ⟨zaA, hzaA, ssaA⟩ := szII_ok gaA
  refine M.Conv_bind hzaA ?_
  refine M.Conv_ite (fun _ => M.Conv_ret _) (fun qaA => ?_)
  have saA := ssaA qaA
  have nzaA := of_decide_eq_false qaA
  refine M.Conv_bind (toII_ok saA) ?_
  refine M.Conv_bind (toI_ok saB) ?_
  obtain ⟨w, hS, hI, hw⟩ := same_LeastCover aA gaA aB gaB saA saB
  refine M.Conv_bind hS ?_
  refine M.Conv_bind (toII_ok saA) ?_
  refine M.Conv_bind (toI_ok saB) ?_
  refine M.Conv_bind hI ?_
  refine M.Conv_bind (eqI_refl hw) ?_
  refine M.Conv_ite (fun q => ?_) (fun _ => ?_)
  · exfalso; revert q; simp
  refine M.Conv_bind (toII_ok saA) ?_
  refine M.Conv_bind (eqII_refl saA) ?_
  refine M.Conv_ite (fun q => ?_) (fun _ => ?_)
  · exfalso; revert q; simp
  refine M.Conv_bind (toI_ok saB) ?_
  refine M.Conv_bind (eqI_refl saB) ?_
  refine M.Conv_ite (fun q => ?_) (fun _ => ?_)
  · exfalso; revert q; simp
  obtain ⟨k1, mk1, hmk1, lek1, gek1, _, hek1⟩ := markII_ok saA _ (show (0 : Int) ≤ 1 by omega) (by omega)
  refine M.Conv_bind hmk1 ?_
  obtain ⟨k2, mk2, hmk2, lek2, gek2, _, hek2⟩ := markI_ok saB _ (show (0 : Int) ≤ k1 by omega) (by omega)
  refine M.Conv_bind hmk2 ?_
  refine M.Conv_bind (x := false) (M.Conv_ite (fun q => ?_) (fun _ => M.Conv_bind (eqI_refl hw) (M.Conv_ret _))) ?_
  · exfalso; revert q; simp; omega
  refine M.Conv_ite (fun q => ?_) (fun _ => ?_)
  · exfalso; revert q; simp
  obtain ⟨k3, mk3, hmk3, lek3, gek3, _, hek3⟩ := markI_ok hw _ (show (0 : Int) ≤ 1 by omega) (by omega)
  refine M.Conv_bind hmk3 ?_
  refine M.Conv_bind hek3 ?_
  refine M.Conv_ite (fun q => ?_) (fun _ => ?_)
  · exfalso; revert q; simp; try omega
  refine M.Conv_ite (fun q => ?_) (fun _ => ?_)
  · exfalso; revert q; simp; try omega
  refine M.Conv_bind (toII_ok saA) ?_
  refine M.Conv_bind (toI_ok saB) ?_
  refine M.Conv_bind hI ?_
  refine M.Conv_bind (eqI_refl hw) ?_
  refine M.Conv_ite (fun q => ?_) (fun _ => ?_)
  · exfalso; revert q; simp; try omega
  refine M.Conv_bind hek3 ?_
  refine M.Conv_ite (fun q => ?_) (fun _ => ?_)
  · exfalso; revert q; simp; try omega
  refine M.Conv_ite (fun q => ?_) (fun _ => ?_)
  · exfalso; revert q; simp; try omega
  exact M.Conv_ret _

end Go.Proofs.Ytmpjjdgfkjompaa
