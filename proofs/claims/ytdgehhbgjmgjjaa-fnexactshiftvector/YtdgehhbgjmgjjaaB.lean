/-
  Plain proofs: the plain program of the law ends with true.
  Conditions: None beyond the given statement.
-/
import Derived.Test.YtdgehhbgjmgjjaaP
namespace Go.Proofs.Ytdgehhbgjmgjjaa
open Go
/-! ### plain programs: loops over a list -/
namespace M
variable {α β σ ρ : Type}
/-- rounds over the elements of a list, each with its place; a round may leave -/
def run (g : Nat → α → σ → σ ⊕ ρ) (fin : σ → ρ) : Nat → List α → σ → ρ
  | _, [], s => fin s
  | i, x :: xs, s => match g i x s with
    | .inl s' => run g fin (i + 1) xs s'
    | .inr r => r
theorem Conv_forN {l : List α} {f : Int → σ → M (σ ⊕ ρ)} (g : Nat → α → σ → σ ⊕ ρ) (fin : σ → ρ) (I : Nat → σ → Prop) (hi : Int) :
    ∀ (xs : List α) (i : Nat) (s : σ), hi = (i + xs.length : Nat) → I i s → (∀ (j : Nat) x s, xs[j]? = some x → I (i + j) s → Conv (f (i + j : Nat) s) (g (i + j) x s) ∧ ∀ s', g (i + j) x s = .inl s' → I (i + j + 1) s') →
      ∃ N, ∀ n, N ≤ n → forN hi fin f n xs.length i s = some (run g fin i xs s)
  | [], i, s, hh, _, _ => ⟨0, fun n _ => by
      have : ¬ (i : Int) < hi := by rw [hh]; simp
      simp [forN, run, this]⟩
  | x :: xs, i, s, hh, h0, H => by
    have hlt : (i : Int) < hi := by rw [hh]; simp; omega
    obtain ⟨⟨N, hN⟩, hI⟩ := H 0 x s rfl h0
    simp only [Nat.add_zero] at hN hI
    cases hg : g i x s with
    | inl s' =>
      have hi' := hI s' hg
      obtain ⟨N', hN'⟩ := Conv_forN (l := l) g fin I hi xs (i + 1) s' (by rw [hh, List.length_cons]; congr 1; omega) hi' (fun j y s hy hIs => by
        have := H (j + 1) y s (by simpa using hy) (by rw [← Nat.add_assoc, Nat.add_right_comm]; exact hIs)
        rw [show i + (j + 1) = i + 1 + j by omega] at this
        exact this)
      refine ⟨max N N', fun n hn => ?_⟩
      have h1 := hN n (by omega)
      rw [hg] at h1
      simp only [List.length_cons, forN, hlt, decide_true, cond_true, h1, run, hg]
      have := hN' n (by omega)
      simpa using this
    | inr r =>
      refine ⟨N, fun n hn => ?_⟩
      have h1 := hN n hn
      rw [hg] at h1
      simp only [List.length_cons, forN, hlt, decide_true, cond_true, h1, run, hg]
/-- a loop over a list, with an invariant -/
theorem Conv_forI {l : List α} {f : Int → σ → M (σ ⊕ ρ)} {fin : σ → ρ} {s : σ} (g : Nat → α → σ → σ ⊕ ρ) (I : Nat → σ → Prop) (hl : l.length ≤ 9223372036854775807) (h0 : I 0 s)
    (H : ∀ (i : Nat) x s, l[i]? = some x → I i s → Conv (f i s) (g i x s) ∧ ∀ s', g i x s = .inl s' → I (i + 1) s') : Conv (forI 0 (l.length : Int) fin f s) (run g fin 0 l s) := by
  obtain ⟨N, hN⟩ := Conv_forN (l := l) (f := f) g fin I (l.length : Int) l 0 s (by simp) h0 (fun j x s hx hI => by simpa using H j x s hx (by simpa using hI))
  refine ⟨N, fun n hn => ?_⟩
  have h1 : (l.length : Int) ≤ 9223372036854775807 := by omega
  simp only [forI, h1, decide_true, Bool.and_true, show (-9223372036854775808 : Int) ≤ 0 by decide, cond_true]
  have := hN n hn
  simpa using this
/-- .. without one -/
theorem Conv_forL {l : List α} {f : Int → σ → M (σ ⊕ ρ)} {fin : σ → ρ} {s : σ} (g : Nat → α → σ → σ ⊕ ρ) (hl : l.length ≤ 9223372036854775807)
    (H : ∀ (i : Nat) x s, l[i]? = some x → Conv (f i s) (g i x s)) : Conv (forI 0 (l.length : Int) fin f s) (run g fin 0 l s) :=
  Conv_forI g (fun _ _ => True) hl trivial fun i x s hx _ => ⟨H i x s hx, fun _ _ => trivial⟩
theorem Conv.of {m : M α} {r r' : α} (h : Conv m r) (e : r = r') : Conv m r' := e ▸ h
theorem Conv_ite {b : Bool} {x y : M α} {r : α} (h1 : b = true → Conv x r) (h2 : b = false → Conv y r) : Conv (ite b x y) r := by
  cases b
  · exact h2 rfl
  · exact h1 rfl
theorem Conv_ite2 {b : Bool} {x y : M α} {r s : α} (h1 : b = true → Conv x r) (h2 : b = false → Conv y s) : Conv (ite b x y) (bif b then r else s) := by
  cases b
  · exact h2 rfl
  · exact h1 rfl
theorem Conv_guard {b : Bool} (h : b = true) : Conv (guard b) () := ⟨0, fun _ _ => by simp [guard, h]⟩
theorem Conv_upd {l : List α} {i : Nat} {x : α} (h : i < l.length) : Conv (upd l i x) (l.set i x) := ⟨0, fun _ _ => by simp [upd, h]⟩
theorem Conv_get {l : List α} {i : Int} {x : α} (h0 : 0 ≤ i) (h : l[i.toNat]? = some x) : Conv (idx l i) x := ⟨0, fun _ _ => by simp [idx, h0, h]⟩
/-- a value told in both ways of a test, then the rest -/
theorem Conv_bite {b : Bool} {x y : M α} {f : α → M β} {u v : α} {r : β} (h1 : b = true → Conv x u) (h2 : b = false → Conv y v) (g : Conv (f (bif b then u else v)) r) : Conv (bind (ite b x y) f) r :=
  Conv_bind (Conv_ite2 h1 h2) g

/-! searches: a loop that leaves at the first element of a kind -/
theorem run_all (p : α → Bool) (u : Unit ⊕ ρ) : ∀ (i : Nat) (l : List α), run (ρ := Unit ⊕ ρ) (fun _ x _ => bif p x then .inl () else .inr u) (fun s => .inl s) i l () = bif l.all p then .inl () else u
  | _, [] => rfl
  | i, x :: xs => by
    simp only [run, List.all_cons]
    cases p x
    · rfl
    · simpa using run_all p u (i + 1) xs
/-- 'for .. if not p x, return v' -/
theorem Conv_all {l : List α} {f : Int → Unit → M (Unit ⊕ (Unit ⊕ ρ))} (p : α → Bool) (v : ρ) (hl : l.length ≤ 9223372036854775807) (H : ∀ (i : Nat) x, l[i]? = some x → Conv (f i ()) (bif p x then .inl () else .inr (.inr v))) :
    Conv (forI 0 (l.length : Int) (fun s => .inl s) f ()) (bif l.all p then .inl () else .inr v) :=
  (Conv_forL (fun _ x _ => bif p x then .inl () else .inr (.inr v)) hl fun i x _ hx => H i x hx).of (run_all p (.inr v) 0 l)
/-- the same, where the element's place matters to the test -/
theorem run_allI (p : Nat → α → Bool) (u : Unit ⊕ ρ) : ∀ (i : Nat) (l : List α), run (ρ := Unit ⊕ ρ) (fun j x _ => bif p j x then .inl () else .inr u) (fun s => .inl s) i l () = bif (l.zipIdx i).all (fun q => p q.2 q.1) then .inl () else u
  | _, [] => rfl
  | i, x :: xs => by
    simp only [run, List.zipIdx_cons, List.all_cons]
    cases p i x
    · rfl
    · simpa using run_allI p u (i + 1) xs
theorem Conv_allI {l : List α} {f : Int → Unit → M (Unit ⊕ (Unit ⊕ ρ))} (p : Nat → α → Bool) (v : ρ) (hl : l.length ≤ 9223372036854775807) (H : ∀ (i : Nat) x, l[i]? = some x → Conv (f i ()) (bif p i x then .inl () else .inr (.inr v))) :
    Conv (forI 0 (l.length : Int) (fun s => .inl s) f ()) (bif (l.zipIdx 0).all (fun q => p q.2 q.1) then .inl () else .inr v) :=
  (Conv_forL (fun j x _ => bif p j x then .inl () else .inr (.inr v)) hl fun i x _ hx => H i x hx).of (run_allI p (.inr v) 0 l)
/-- 'for i .. if p x, return i' -/
theorem run_find (p : α → Bool) : ∀ (i : Nat) (l : List α), run (σ := Unit) (ρ := Unit ⊕ Int) (fun j x _ => bif p x then .inr (.inr (j : Int)) else .inl ()) (fun s => .inl s) i l () = match l.findIdx? p with
    | some j => .inr ((i + j : Nat) : Int)
    | none => .inl ()
  | _, [] => rfl
  | i, x :: xs => by
    simp only [run, List.findIdx?_cons]
    cases hp : p x
    · simp only [cond_false, run_find p (i + 1) xs, Bool.false_eq_true, if_false]
      cases xs.findIdx? p with
      | none => rfl
      | some j => simp only [Option.map_some]; congr 2; omega
    · simp
theorem Conv_find {l : List α} {f : Int → Unit → M (Unit ⊕ (Unit ⊕ Int))} (p : α → Bool) (hl : l.length ≤ 9223372036854775807) (H : ∀ (i : Nat) x, l[i]? = some x → Conv (f i ()) (bif p x then .inr (.inr (i : Int)) else .inl ())) :
    Conv (forI 0 (l.length : Int) (fun s => .inl s) f ()) (match l.findIdx? p with | some j => .inr (j : Int) | none => .inl ()) :=
  (Conv_forL (fun j x _ => bif p x then .inr (.inr (j : Int)) else .inl ()) hl fun i x _ hx => H i x hx).of (by rw [run_find]; simp)
/-- sums: each round turns what has been gathered -/
theorem run_fold (g : σ → α → σ) : ∀ (i : Nat) (l : List α) (s : σ), run (fun _ x s => .inl (g s x)) (fun s => s) i l s = l.foldl g s
  | _, [], _ => rfl
  | i, x :: xs, s => by simpa [run] using run_fold g (i + 1) xs (g s x)
theorem Conv_fold {l : List α} {f : Int → σ → M (σ ⊕ σ)} {s : σ} (g : σ → α → σ) (hl : l.length ≤ 9223372036854775807) (H : ∀ (i : Nat) x s, l[i]? = some x → Conv (f i s) (.inl (g s x))) :
    Conv (forI 0 (l.length : Int) (fun s => s) f s) (l.foldl g s) :=
  (Conv_forL (fun _ x s => .inl (g s x)) hl fun i x s hx => H i x s hx).of (run_fold g 0 l s)
theorem get_set_append {l r : List α} {x y : α} : (l ++ y :: r).set l.length x = l ++ x :: r := by simp
/-- a loop that fills a list of the same length, element by element -/
theorem run_fill (g : Nat → α → β) (z : β) : ∀ (i : Nat) (l : List α) (d : List β), d.length = i →
    run (fun j x s => .inl (s.set j (g j x))) (fun s => s) i l (d ++ List.replicate l.length z) = d ++ (l.zipIdx i).map (fun q => g q.2 q.1)
  | _, [], d, _ => by simp [run]
  | i, x :: xs, d, hd => by
    subst hd
    simp only [run, List.length_cons, List.replicate_succ, get_set_append]
    have := run_fill g z (d.length + 1) xs (d ++ [g d.length x]) (by simp)
    simp only [List.append_assoc, List.singleton_append] at this
    rw [this]
    simp
theorem Conv_fill {l : List α} {f : Int → List β → M (List β ⊕ List β)} (g : Nat → α → β) (z : β) (hl : l.length ≤ 9223372036854775807)
    (H : ∀ (i : Nat) x s, l[i]? = some x → s.length = l.length → Conv (f i s) (.inl (s.set i (g i x)))) :
    Conv (forI 0 (l.length : Int) (fun s => s) f (List.replicate l.length z)) ((l.zipIdx 0).map (fun q => g q.2 q.1)) := by
  refine (Conv_forI (fun j x s => .inl (s.set j (g j x))) (fun _ s => s.length = l.length) hl (by simp) fun i x s hx hI => ⟨H i x s hx hI, fun s' e => ?_⟩).of ?_
  · cases e; simpa using hI
  · simpa using run_fill g z 0 l [] rfl
theorem zipIdx_map_fst {l : List α} {g : α → β} {i : Nat} : ((l.zipIdx i).map fun q => g q.1) = l.map g := by
  have h : List.map (g ∘ Prod.fst) (l.zipIdx i) = List.map g l := by rw [← List.map_map, List.zipIdx_map_fst]
  exact h
theorem findIdx_any {l : List α} {p : α → Bool} : (decide ((0:Int) ≤ match l.findIdx? p with | some j => (j : Int) | none => -1)) = l.any p := by
  cases h : l.findIdx? p with
  | none => rw [List.findIdx?_eq_none_iff] at h; simp; exact fun x hx => by simpa using h x hx
  | some j =>
    obtain ⟨hj, hp, _⟩ := List.findIdx?_eq_some_iff_getElem.1 h
    simp
    exact ⟨_, List.getElem_mem hj, hp⟩
end M
def finB (x : Int) : Bool := decide (-1000000 ≤ x) && decide (x ≤ 1000000)
def valB (x : Int) : Bool := x == (-1000000000000000) || finB x
theorem toInt64S_ok {a : List Int} (h : a.length ≤ 1099511627776) : M.Conv (laws_toInt64S a) a := by
  unfold laws_toInt64S
  refine M.Conv_bind (M.Conv_make (by omega) (by omega)) ?_
  refine M.Conv_bind (x := a) (((M.Conv_fill (l := a) (f := _) (fun _ x => x) 0 (by omega) fun i x s hx hs => ?_)).of ?_) (M.Conv_ret _)
  · have hi := (List.getElem?_eq_some_iff.1 hx).1
    refine M.Conv_bind (M.Conv_get (by omega) (by simpa using hx)) ?_
    refine M.Conv_bind (M.Conv_get (x := s[i]) (by omega) (by simp [show i < s.length by omega])) ?_
    exact M.Conv_bind (M.Conv_upd (by omega)) (M.Conv_ret _)
  · exact M.zipIdx_map_fst.trans (List.map_id' _)
theorem eqInt64S_ok {a b : List Int} (ha : a.length ≤ 9223372036854775807) : M.Conv (laws_eqInt64S a b) (decide (a = b)) := by
  unfold laws_eqInt64S
  refine M.Conv_ite (fun h => ?_) (fun h => ?_)
  · have : a ≠ b := by rintro rfl; simp at h
    rw [decide_eq_false this]; exact M.Conv_ret _
  · have hl : a.length = b.length := Int.ofNat.inj (by simpa using h)
    refine M.Conv_bind (M.Conv_allI (fun i x => b[i]? == some x) false ha fun i x hx => ?_) ?_
    · have hi := (List.getElem?_eq_some_iff.1 hx).1
      refine M.Conv_bind (M.Conv_get (by omega) (by simpa using hx)) ?_
      refine M.Conv_bind (M.Conv_get (x := b[i]) (by omega) (by simp [show i < b.length by omega])) ?_
      have hb : (b[i]? == some x) = !(x != b[i]) := by rw [List.getElem?_eq_getElem (by omega), bne, Bool.not_not, Option.some_beq_some, BEq.comm]
      rw [hb]
      cases (x != b[i]) <;> exact M.Conv_ret _
    · have key : ((a.zipIdx 0).all fun q => b[q.2]? == some q.1) = decide (a = b) := by
        by_cases e : a = b
        · subst e
          rw [decide_eq_true rfl, List.all_eq_true]
          rintro ⟨x, i⟩ hq
          have := List.mk_mem_zipIdx_iff_getElem?.1 hq
          simp [this]
        · rw [decide_eq_false e, Bool.eq_false_iff]
          intro h
          apply e
          rw [List.all_eq_true] at h
          refine List.ext_getElem hl fun i h1 h2 => ?_
          have := h (a[i], i) (List.mk_mem_zipIdx_iff_getElem?.2 (List.getElem?_eq_getElem h1))
          simp [h2] at this
          exact this.symm
      rw [key]
      cases decide (a = b) <;> exact M.Conv_ret _
theorem spec_l01In_ok (x lo hi : Int) : M.Conv (spec_l01In x lo hi) (decide (lo ≤ x) && decide (x ≤ hi)) := M.Conv_ret _
theorem spec_l01Finite_ok (x : Int) : M.Conv (spec_l01Finite x) (finB x) := M.Conv_bind (spec_l01In_ok _ _ _) (M.Conv_ret _)
theorem spec_IsValue_ok (x : Int) : M.Conv (spec_IsValue x) (valB x) := by
  unfold spec_IsValue
  refine M.Conv_bind (M.Conv_ite (r := valB x) (fun h => ?_) (fun h => ?_)) (M.Conv_ret _)
  · simp only [valB, h, Bool.true_or]; exact M.Conv_ret _
  · simp only [valB, h, Bool.false_or]; exact M.Conv_bind (spec_l01Finite_ok x) (M.Conv_ret _)
theorem spec_l01All_ok {l : List Int} (f : Bool) (hl : l.length ≤ 9223372036854775807) : M.Conv (spec_l01All l f) (l.all fun x => valB x && !(f && x == (-1000000000000000))) := by
  unfold spec_l01All
  refine M.Conv_bind (M.Conv_all (fun x => valB x && !(f && x == (-1000000000000000))) false hl fun i x hx => ?_) ?_
  · refine M.Conv_bind (M.Conv_get (by omega) (by simpa using hx)) (M.Conv_bind (spec_IsValue_ok x) ?_)
    refine M.Conv_bind (x := !(valB x && !(f && x == (-1000000000000000)))) (M.Conv_ite (fun h => ?_) (fun h => ?_)) ?_
    · simp at h; simp [h]; exact M.Conv_ret _
    · simp at h
      refine M.Conv_bind (x := (f && x == (-1000000000000000))) (M.Conv_ite (fun h => ?_) (fun h => ?_)) (by simp [h]; exact M.Conv_ret _)
      · simp [h]; exact M.Conv_bind (M.Conv_get (by omega) (by simpa using hx)) (M.Conv_ret _)
      · simp [h]; exact M.Conv_ret _
    · cases (valB x && !(f && x == (-1000000000000000))) <;> exact M.Conv_ret _
  · cases (l.all fun x => valB x && !(f && x == (-1000000000000000))) <;> exact M.Conv_ret _
theorem impl_within_ok (x lo hi : Int) : M.Conv (impl_within x lo hi) (decide (lo ≤ x) && decide (x ≤ hi)) := M.Conv_ret _
theorem impl_isFinite_ok (x : Int) : M.Conv (impl_isFinite x) (finB x) := M.Conv_bind (impl_within_ok _ _ _) (M.Conv_ret _)
theorem impl_IsValue_ok (x : Int) : M.Conv (impl_IsValue x) (valB x) := by
  unfold impl_IsValue
  refine M.Conv_bind (M.Conv_ite (r := valB x) (fun h => ?_) (fun h => ?_)) (M.Conv_ret _)
  · simp only [valB, h, Bool.true_or]; exact M.Conv_ret _
  · simp only [valB, h, Bool.false_or]; exact M.Conv_bind (impl_isFinite_ok x) (M.Conv_ret _)
/-- 'slices.ContainsFunc', behind 'slices.IndexFunc' -/
theorem contains_ok {α : Type} {l : List α} {f : Int → Unit → M (Unit ⊕ (Unit ⊕ Int))} (p : α → Bool) (hl : l.length ≤ 9223372036854775807) (H : ∀ (i : Nat) x, l[i]? = some x → M.Conv (f i ()) (bif p x then .inr (.inr (i : Int)) else .inl ())) :
    M.Conv (M.bind (M.bind (M.forI 0 (l.length : Int) (fun s => .inl s) f ()) (fun x1 => M.cont x1 (fun _ => M.ret (-1)) (fun r => M.ret r))) (fun x1 => M.ret (decide (0 ≤ x1)))) (l.any p) := by
  rw [← M.findIdx_any]
  refine M.Conv_bind (M.Conv_bind (M.Conv_find p hl H) ?_) (M.Conv_ret _)
  cases l.findIdx? p <;> exact M.Conv_ret _
theorem any_not {α : Type} {l : List α} {p : α → Bool} : (!l.any fun x => !p x) = l.all p := by
  induction l with
  | nil => rfl
  | cons x xs ih => simp only [List.any_cons, List.all_cons, Bool.not_or, Bool.not_not, ih]
theorem impl_areValues_ok {l : List Int} (hl : l.length ≤ 9223372036854775807) : M.Conv (impl_areValues l) (l.all valB) := by
  unfold impl_areValues slices_ContainsFunc_int_F_impl_areValues_1 slices_IndexFunc_int_F_impl_areValues_1
  refine M.Conv_bind (contains_ok (fun x => !valB x) hl fun i x hx => ?_) ((M.Conv_ret _).of any_not)
  refine M.Conv_bind (M.Conv_get (by omega) (by simpa using hx)) ?_
  refine M.Conv_bind (x := !valB x) (M.Conv_bind (impl_IsValue_ok x) (M.Conv_ret _)) ?_
  cases valB x <;> exact M.Conv_ret _
def smI (l : List Int) : Prop := l.length ≤ 1099511627776
theorem toI_ok {a : List Int} (h : smI a) : M.Conv (laws_toInt64S a) a := toInt64S_ok h
theorem eqI_refl {a : List Int} (h : smI a) : M.Conv (laws_eqInt64S a a) true := (eqInt64S_ok (by unfold smI at h; omega)).of (by simp)
/-- marks: element i becomes e (k + w * i) -/
theorem Conv_mark {α : Type} {l : List α} {f : Int → List α × Int → M ((List α × Int) ⊕ (List α × Int))} (w : Int) (e : Int → α) (k : Int) (hl : l.length ≤ 9223372036854775807)
    (H : ∀ (i : Nat) (s : List α), i < l.length → s.length = l.length → M.Conv (f i (s, k + w * i)) (.inl (s.set i (e (k + w * i)), k + w * (i + 1)))) :
    M.Conv (M.forI 0 (l.length : Int) (fun s => s) f (l, k)) ((List.range l.length).map (fun (i : Nat) => e (k + w * i)), k + w * l.length) := by
  refine (M.Conv_forI (l := l) (fun i _ s => .inl (s.1.set i (e (k + w * i)), k + w * (i + 1))) (fun i s => s.1.length = l.length ∧ s.2 = k + w * i) hl ⟨rfl, by simp⟩ fun i x s hx hI => ?_).of ?_
  · obtain ⟨s, q⟩ := s
    obtain ⟨h1, h2⟩ := hI
    simp only at h1 h2
    subst h2
    refine ⟨H i s (List.getElem?_eq_some_iff.1 hx).1 h1, fun s' es => ?_⟩
    cases es
    exact ⟨by simpa using h1, by simp⟩
  · have key : ∀ (xs : List α) (i : Nat) (d : List α), d.length = i → M.run (ρ := List α × Int) (fun i _ s => .inl (s.1.set i (e (k + w * i)), k + w * ((i : Int) + 1))) (fun s => s) i xs (d ++ xs, k + w * i) = (d ++ (List.range xs.length).map (fun (j : Nat) => e (k + w * (i + j : Nat))), k + w * (i + xs.length : Nat)) := by
      intro xs
      induction xs with
      | nil => intro i d hd; simp [M.run]
      | cons x xs ih =>
        intro i d hd
        subst hd
        simp only [M.run]
        have := ih (d.length + 1) (d ++ [e (k + w * d.length)]) (by simp)
        rw [show (d ++ x :: xs).set d.length (e (k + w * d.length)) = d ++ [e (k + w * d.length)] ++ xs by simp]
        rw [show ((d.length : Int) + 1) = ((d.length + 1 : Nat) : Int) by omega, this]
        simp only [List.length_cons, List.range_succ_eq_map, List.map_cons, List.map_map, List.append_assoc, List.singleton_append, Prod.mk.injEq, List.append_cancel_left_eq, List.cons.injEq]
        refine ⟨⟨by simp, List.map_congr_left fun j _ => ?_⟩, by congr 2; omega⟩
        simp only [Function.comp]
        congr 3; omega
    have := key l 0 [] rfl
    simpa using this
theorem Conv_held {α : Type} {l : List α} {f : Int → Int → M (Int ⊕ (Int ⊕ Int))} (w k : Int) (hl : l.length ≤ 9223372036854775807) (H : ∀ (i : Nat) x, l[i]? = some x → M.Conv (f i (k + w * i)) (.inl (k + w * (i + 1)))) :
    M.Conv (M.forI 0 (l.length : Int) (fun s => .inl s) f k) (.inl (k + w * l.length)) := by
  refine (M.Conv_forI (l := l) (fun i _ _ => .inl (k + w * (i + 1))) (fun i s => s = k + w * i) hl (by simp) fun i x s hx hI => ?_).of ?_
  · subst hI
    exact ⟨H i x hx, fun s' es => by cases es; simp⟩
  · have key : ∀ (xs : List α) (i : Nat), M.run (σ := Int) (ρ := Int ⊕ Int) (fun i _ _ => .inl (k + w * ((i : Int) + 1))) (fun s => .inl s) i xs (k + w * i) = .inl (k + w * (i + xs.length : Nat)) := by
      intro xs
      induction xs with
      | nil => intro i; simp [M.run]
      | cons x xs ih =>
        intro i
        simp only [M.run, List.length_cons]
        rw [show ((i : Int) + 1) = ((i + 1 : Nat) : Int) by omega, ih (i + 1)]
        congr 3; omega
    have := key l 0
    simpa using this
theorem markI_ok {a : List Int} (h : smI a) (k : Int) (h0 : 0 ≤ k) (hk : k ≤ 2305843009213693952) :
    ∃ (k' : Int) (a' : List Int), M.Conv (laws_markInt64S a k) (k', a') ∧ k ≤ k' ∧ k' ≤ k + 1099511627776 ∧ a'.length = a.length ∧ M.Conv (laws_heldInt64S a' k) k' := by
  unfold smI at h
  refine ⟨k + 1 * a.length, (List.range a.length).map (fun (i : Nat) => k + 1 * (i : Int)), ?_, by omega, by omega, by simp, ?_⟩
  · unfold laws_markInt64S
    refine M.Conv_bind (Conv_mark 1 (fun x => x) k (by omega) fun i s hi hs => ?_) (M.Conv_ret _)
    refine M.Conv_bind (M.Conv_get (x := s[i]) (by omega) (by simp [show i < s.length by omega])) (M.Conv_bind (M.Conv_upd (show i < s.length by omega)) ((M.Conv_ret _).of ?_))
    rw [w64_eq _ (by omega)]
    congr 2; omega
  · unfold laws_heldInt64S
    have hl : ((List.range a.length).map fun i : Nat => k + 1 * (i : Int)).length = a.length := by simp
    refine M.Conv_bind (Conv_held 1 k (by rw [hl]; omega) fun i x hx => ?_) ((M.Conv_ret _).of (by rw [hl]))
    have hi := (List.getElem?_eq_some_iff.1 hx).1
    rw [hl] at hi
    have ex : x = k + 1 * i := by simp [hi] at hx; omega
    refine M.Conv_bind (M.Conv_get (by omega) (by simpa using hx)) (M.Conv_ite (fun q => by simp [ex] at q) (fun _ => (M.Conv_ret _).of ?_))
    rw [w64_eq _ (by omega)]
    congr 1; omega

/-- two programs, one answer -/
def Two {α : Type} (m m' : M α) (Post : α → Prop) : Prop := ∃ r, M.Conv m r ∧ M.Conv m' r ∧ Post r
theorem Two.mk {α : Type} {m m' : M α} {Post : α → Prop} {r : α} (h : M.Conv m r) (h' : M.Conv m' r) (p : Post r) : Two m m' Post := ⟨r, h, h', p⟩
theorem Two.ret {α : Type} {Post : α → Prop} (r : α) (p : Post r) : Two (M.ret r) (M.ret r) Post := ⟨r, M.Conv_ret _, M.Conv_ret _, p⟩
theorem Two.bindC {α α' β : Type} {m : M α} {m' : M α'} {f : α → M β} {f' : α' → M β} {Q : β → Prop} {x : α} {x' : α'} (h : M.Conv m x) (h' : M.Conv m' x') (g : Two (f x) (f' x') Q) : Two (M.bind m f) (M.bind m' f') Q := by
  obtain ⟨r, g1, g2, q⟩ := g
  exact ⟨r, M.Conv_bind h g1, M.Conv_bind h' g2, q⟩
theorem Two.ite {α : Type} {b : Bool} {x y x' y' : M α} {Q : α → Prop} (h1 : b = true → Two x x' Q) (h2 : b = false → Two y y' Q) : Two (M.ite b x y) (M.ite b x' y') Q := by
  cases b
  · exact h2 rfl
  · exact h1 rfl
def timesI (a b : Int) : Int := bif (a == (-1000000000000000)) || (b == (-1000000000000000)) then (-1000000000000000) else w64 (a + b)
theorem spec_l01Times_ok (a b : Int) : M.Conv (spec_l01Times a b) (timesI a b) := M.Conv_ite2 (fun _ => M.Conv_ret _) (fun _ => M.Conv_ret _)
theorem impl_times_ok (a b : Int) : M.Conv (impl_times a b) (timesI a b) := M.Conv_ite2 (fun _ => M.Conv_ret _) (fun _ => M.Conv_ret _)
theorem spec_l07Shift_ok {x : List Int} (g : Int) (h : x.length ≤ 1099511627) : M.Conv (spec_l07Shift x g) (x.map (timesI · g)) := by
  unfold spec_l07Shift
  refine M.Conv_bind ((M.Conv_forI (fun _ y s => .inl (s ++ [timesI y g])) (fun i s => s.length = i) (by omega) rfl fun i y s hy hs => ?_).of (?_ : _ = x.map (timesI · g))) (M.Conv_ret _)
  · have hi := (List.getElem?_eq_some_iff.1 hy).1
    refine ⟨M.Conv_bind (M.Conv_get (by omega) (by simpa using hy)) (M.Conv_bind (spec_l01Times_ok _ _) (M.Conv_bind (M.Conv_app (by simp; omega)) (M.Conv_ret _))), fun s' e => by cases e; simp [hs]⟩
  · have key : ∀ (xs : List Int) (i : Nat) (s : List Int), M.run (ρ := List Int) (fun _ y s => .inl (s ++ [timesI y g])) (fun s => s) i xs s = s ++ xs.map (timesI · g) := by
      intro xs
      induction xs with
      | nil => intro i s; simp [M.run]
      | cons x xs ih => intro i s; simp [M.run, ih]
    simpa using key x 0 []
theorem impl_shiftedVector_ok {x : List Int} (g : Int) (h : x.length ≤ 1099511627) : M.Conv (impl_shiftedVector x g) (x.map (timesI · g)) := by
  unfold impl_shiftedVector
  refine M.Conv_bind (M.Conv_make (by omega) (by omega)) (M.Conv_bind ((M.Conv_fill (l := x) (fun _ y => timesI y g) 0 (by omega) fun i y s hy hs => ?_).of (?_ : _ = x.map (timesI · g))) (M.Conv_ret _))
  · have hi := (List.getElem?_eq_some_iff.1 hy).1
    exact M.Conv_bind (M.Conv_get (by omega) (by simpa using hy)) (M.Conv_bind (impl_times_ok _ _) (M.Conv_bind (M.Conv_get (x := s[i]) (by omega) (by simp [show i < s.length by omega])) (M.Conv_bind (M.Conv_upd (by omega)) (M.Conv_ret _))))
  · exact M.zipIdx_map_fst (g := fun v => timesI v g)
/-- a vector: one to ten values -/
def vecB (x : List Int) : Bool := decide (1 ≤ x.length) && decide (x.length ≤ 10) && x.all valB
theorem spec_l02Vector_ok {x : List Int} (hl : x.length ≤ 9223372036854775807) : M.Conv (spec_l02Vector x) (vecB x) := by
  unfold spec_l02Vector
  refine M.Conv_bind (spec_l01In_ok _ _ _) (M.Conv_bind (x := vecB x) (M.Conv_ite (fun h => ?_) (fun h => ?_)) (M.Conv_ret _))
  · refine M.Conv_bind (spec_l01All_ok false hl) ((M.Conv_ret _).of ?_)
    simp at h
    simp [vecB, show 1 ≤ x.length by omega, show x.length ≤ 10 by omega]
  · refine (M.Conv_ret _).of ?_
    simp only [vecB]
    rw [show (decide (1 ≤ x.length) && decide (x.length ≤ 10)) = false by rw [← h]; congr 1 <;> simp <;> omega]; rfl
theorem impl_isVector_ok {x : List Int} (hl : x.length ≤ 9223372036854775807) : M.Conv (impl_isVector x) (vecB x) := by
  unfold impl_isVector
  refine M.Conv_bind (impl_within_ok _ _ _) (M.Conv_bind (x := vecB x) (M.Conv_ite (fun h => ?_) (fun h => ?_)) (M.Conv_ret _))
  · refine M.Conv_bind (impl_areValues_ok hl) ((M.Conv_ret _).of ?_)
    simp at h
    simp [vecB, show 1 ≤ x.length by omega, show x.length ≤ 10 by omega]
  · refine (M.Conv_ret _).of ?_
    simp only [vecB]
    rw [show (decide (1 ≤ x.length) && decide (x.length ≤ 10)) = false by rw [← h]; congr 1 <;> simp <;> omega]; rfl
theorem impl_checkedVector_ok {x : List Int} (hl : x.length ≤ 9223372036854775807) : M.Conv (impl_checkedVector x) (bif x.all valB then (x, 0) else ([], 3)) := by
  unfold impl_checkedVector
  refine M.Conv_bind (impl_areValues_ok hl) (M.Conv_ite (fun h => ?_) (fun h => ?_))
  · simp only [Bool.not_eq_true'] at h; rw [h]; exact M.Conv_ret _
  · simp only [Bool.not_eq_false'] at h; rw [h]; exact M.Conv_ret _
theorem same_ShiftVector (x : List Int) (gx : fitL inI64 x) (g : Int) (gg : inI64 g) (_ : smI x) : Two (spec_ShiftVector x g) (impl_ShiftVector x g) (fun w => smI w.1) := by
  unfold spec_ShiftVector impl_ShiftVector
  refine Two.bindC (spec_l02Vector_ok gx.1) (impl_isVector_ok gx.1) (Two.ite (fun _ => Two.ret _ (by simp [smI])) (fun h => ?_))
  have hv : vecB x = true := by simpa using h
  simp only [vecB, Bool.and_eq_true, decide_eq_true_eq] at hv
  refine Two.bindC (spec_l01Finite_ok g) (impl_isFinite_ok g) (Two.ite (fun _ => Two.ret _ (by simp [smI])) (fun h => ?_))
  refine Two.bindC (spec_l07Shift_ok g (by omega)) (impl_shiftedVector_ok g (by omega)) ?_
  have hlen : (x.map (timesI · g)).length = x.length := List.length_map _
  refine Two.bindC (spec_l02Vector_ok (by rw [hlen]; omega)) (impl_checkedVector_ok (by rw [hlen]; omega)) ?_
  have e : vecB (x.map (timesI · g)) = (x.map (timesI · g)).all valB := by simp only [vecB, hlen, decide_eq_true hv.1.1, decide_eq_true hv.1.2, Bool.true_and]
  rw [e]
  cases hb : (x.map (timesI · g)).all valB with
  | false => exact Two.mk (M.Conv_ret _) (M.Conv_ret _) (by simp [smI])
  | true => exact Two.mk (M.Conv_ret _) (M.Conv_ret _) (by simp only [smI, hlen]; omega)
theorem FnExactShiftVector_ok (aX : List Int) (gaX : fitL inI64 aX) (aG : Int) (gaG : inI64 aG) : M.Conv (laws_FnExactShiftVector aX aG) true := by
  unfold laws_FnExactShiftVector
  refine M.Conv_ite (fun _ => M.Conv_ret _) (fun qaX => ?_)
  have saX : smI aX := by have := of_decide_eq_false qaX; unfold smI; omega
  refine M.Conv_bind (toI_ok saX) ?_
  obtain ⟨w, hS, hI, hw⟩ := same_ShiftVector aX gaX aG gaG saX
  refine M.Conv_bind hS ?_
  refine M.Conv_bind (toI_ok saX) ?_
  refine M.Conv_bind hI ?_
  refine M.Conv_bind (eqI_refl hw) ?_
  refine M.Conv_ite (fun q => ?_) (fun _ => ?_)
  · exfalso; revert q; simp
  refine M.Conv_bind (toI_ok saX) ?_
  refine M.Conv_bind (eqI_refl saX) ?_
  refine M.Conv_ite (fun q => ?_) (fun _ => ?_)
  · exfalso; revert q; simp
  obtain ⟨k1, mk1, hmk1, lek1, gek1, _, hek1⟩ := markI_ok saX _ (show (0 : Int) ≤ 1 by omega) (by omega)
  refine M.Conv_bind hmk1 ?_
  refine M.Conv_bind (x := false) (M.Conv_ite (fun q => ?_) (fun _ => M.Conv_bind (eqI_refl hw) (M.Conv_ret _))) ?_
  · exfalso; revert q; simp; omega
  refine M.Conv_ite (fun q => ?_) (fun _ => ?_)
  · exfalso; revert q; simp
  obtain ⟨k2, mk2, hmk2, lek2, gek2, _, hek2⟩ := markI_ok hw _ (show (0 : Int) ≤ 1 by omega) (by omega)
  refine M.Conv_bind hmk2 ?_
  refine M.Conv_bind hek2 ?_
  refine M.Conv_ite (fun q => ?_) (fun _ => ?_)
  · exfalso; revert q; simp; try omega
  refine M.Conv_ite (fun q => ?_) (fun _ => ?_)
  · exfalso; revert q; simp; try omega
  refine M.Conv_bind (toI_ok saX) ?_
  refine M.Conv_bind hI ?_
  refine M.Conv_bind (eqI_refl hw) ?_
  refine M.Conv_ite (fun q => ?_) (fun _ => ?_)
  · exfalso; revert q; simp; try omega
  refine M.Conv_bind hek2 ?_
  refine M.Conv_ite (fun q => ?_) (fun _ => ?_)
  · exfalso; revert q; simp; try omega
  refine M.Conv_ite (fun q => ?_) (fun _ => ?_)
  · exfalso; revert q; simp; try omega
  exact M.Conv_ret _
end Go.Proofs.Ytdgehhbgjmgjjaa
