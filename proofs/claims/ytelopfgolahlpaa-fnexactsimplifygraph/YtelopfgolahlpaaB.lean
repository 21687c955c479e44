/-
  Plain proofs: the plain program of the law ends with true.
  Conditions: None beyond the given statement.
-/
import Derived.Test.YtelopfgolahlpaaP
namespace Go.Proofs.Ytelopfgolahlpaa
open Go
/-! ### plain programs: loops over a list -/
namespace M
variable {α β σ ρ : Type}
/-- rounds over the elements of a list, each with its place; a round may leave -/
def run (g : Nat → α → σ → σ ⊕ ρ) (fin : σ → ρ) : Nat → List α → σ → ρ
  | _, [], s => fin s
  | i, x :: xs, s => match g i x s with
    | .inl s' => run g fin (i + 1) xs s'
    | .inr r => r
theorem Conv_forN {l : List α} {f : Int → σ → M (σ ⊕ ρ)} (g : Nat → α → σ → σ ⊕ ρ) (fin : σ → ρ) (I : Nat → σ → Prop) (hi : Int) :
    ∀ (xs : List α) (i : Nat) (s : σ), hi = (i + xs.length : Nat) → I i s → (∀ (j : Nat) x s, xs[j]? = some x → I (i + j) s → Conv (f (i + j : Nat) s) (g (i + j) x s) ∧ ∀ s', g (i + j) x s = .inl s' → I (i + j + 1) s') →
      ∃ N, ∀ n, N ≤ n → forN hi fin f n xs.length i s = some (run g fin i xs s)
  | [], i, s, hh, _, _ => ⟨0, fun n _ => by
      have : ¬ (i : Int) < hi := by rw [hh]; simp
      simp [forN, run, this]⟩
  | x :: xs, i, s, hh, h0, H => by
    have hlt : (i : Int) < hi := by rw [hh]; simp; omega
    obtain ⟨⟨N, hN⟩, hI⟩ := H 0 x s rfl h0
    simp only [Nat.add_zero] at hN hI
    cases hg : g i x s with
    | inl s' =>
      have hi' := hI s' hg
      obtain ⟨N', hN'⟩ := Conv_forN (l := l) g fin I hi xs (i + 1) s' (by rw [hh, List.length_cons]; congr 1; omega) hi' (fun j y s hy hIs => by
        have := H (j + 1) y s (by simpa using hy) (by rw [← Nat.add_assoc, Nat.add_right_comm]; exact hIs)
        rw [show i + (j + 1) = i + 1 + j by omega] at this
        exact this)
      refine ⟨max N N', fun n hn => ?_⟩
      have h1 := hN n (by omega)
      rw [hg] at h1
      simp only [List.length_cons, forN, hlt, decide_true, cond_true, h1, run, hg]
      have := hN' n (by omega)
      simpa using this
    | inr r =>
      refine ⟨N, fun n hn => ?_⟩
      have h1 := hN n hn
      rw [hg] at h1
      simp only [List.length_cons, forN, hlt, decide_true, cond_true, h1, run, hg]
/-- a loop over a list, with an invariant -/
theorem Conv_forI {l : List α} {f : Int → σ → M (σ ⊕ ρ)} {fin : σ → ρ} {s : σ} (g : Nat → α → σ → σ ⊕ ρ) (I : Nat → σ → Prop) (hl : l.length ≤ 9223372036854775807) (h0 : I 0 s)
    (H : ∀ (i : Nat) x s, l[i]? = some x → I i s → Conv (f i s) (g i x s) ∧ ∀ s', g i x s = .inl s' → I (i + 1) s') : Conv (forI 0 (l.length : Int) fin f s) (run g fin 0 l s) := by
  obtain ⟨N, hN⟩ := Conv_forN (l := l) (f := f) g fin I (l.length : Int) l 0 s (by simp) h0 (fun j x s hx hI => by simpa using H j x s hx (by simpa using hI))
  refine ⟨N, fun n hn => ?_⟩
  have h1 : (l.length : Int) ≤ 9223372036854775807 := by omega
  simp only [forI, h1, decide_true, Bool.and_true, show (-9223372036854775808 : Int) ≤ 0 by decide, cond_true]
  have := hN n hn
  simpa using this
/-- .. without one -/
theorem Conv_forL {l : List α} {f : Int → σ → M (σ ⊕ ρ)} {fin : σ → ρ} {s : σ} (g : Nat → α → σ → σ ⊕ ρ) (hl : l.length ≤ 9223372036854775807)
    (H : ∀ (i : Nat) x s, l[i]? = some x → Conv (f i s) (g i x s)) : Conv (forI 0 (l.length : Int) fin f s) (run g fin 0 l s) :=
  Conv_forI g (fun _ _ => True) hl trivial fun i x s hx _ => ⟨H i x s hx, fun _ _ => trivial⟩
theorem Conv.of {m : M α} {r r' : α} (h : Conv m r) (e : r = r') : Conv m r' := e ▸ h
theorem Conv_ite {b : Bool} {x y : M α} {r : α} (h1 : b = true → Conv x r) (h2 : b = false → Conv y r) : Conv (ite b x y) r := by
  cases b
  · exact h2 rfl
  · exact h1 rfl
theorem Conv_ite2 {b : Bool} {x y : M α} {r s : α} (h1 : b = true → Conv x r) (h2 : b = false → Conv y s) : Conv (ite b x y) (bif b then r else s) := by
  cases b
  · exact h2 rfl
  · exact h1 rfl
theorem Conv_guard {b : Bool} (h : b = true) : Conv (guard b) () := ⟨0, fun _ _ => by simp [guard, h]⟩
theorem Conv_upd {l : List α} {i : Nat} {x : α} (h : i < l.length) : Conv (upd l i x) (l.set i x) := ⟨0, fun _ _ => by simp [upd, h]⟩
theorem Conv_get {l : List α} {i : Int} {x : α} (h0 : 0 ≤ i) (h : l[i.toNat]? = some x) : Conv (idx l i) x := ⟨0, fun _ _ => by simp [idx, h0, h]⟩
/-- a value told in both ways of a test, then the rest -/
theorem Conv_bite {b : Bool} {x y : M α} {f : α → M β} {u v : α} {r : β} (h1 : b = true → Conv x u) (h2 : b = false → Conv y v) (g : Conv (f (bif b then u else v)) r) : Conv (bind (ite b x y) f) r :=
  Conv_bind (Conv_ite2 h1 h2) g

/-! searches: a loop that leaves at the first element of a kind -/
theorem run_all (p : α → Bool) (u : Unit ⊕ ρ) : ∀ (i : Nat) (l : List α), run (ρ := Unit ⊕ ρ) (fun _ x _ => bif p x then .inl () else .inr u) (fun s => .inl s) i l () = bif l.all p then .inl () else u
  | _, [] => rfl
  | i, x :: xs => by
    simp only [run, List.all_cons]
    cases p x
    · rfl
    · simpa using run_all p u (i + 1) xs
/-- 'for .. if not p x, return v' -/
theorem Conv_all {l : List α} {f : Int → Unit → M (Unit ⊕ (Unit ⊕ ρ))} (p : α → Bool) (v : ρ) (hl : l.length ≤ 9223372036854775807) (H : ∀ (i : Nat) x, l[i]? = some x → Conv (f i ()) (bif p x then .inl () else .inr (.inr v))) :
    Conv (forI 0 (l.length : Int) (fun s => .inl s) f ()) (bif l.all p then .inl () else .inr v) :=
  (Conv_forL (fun _ x _ => bif p x then .inl () else .inr (.inr v)) hl fun i x _ hx => H i x hx).of (run_all p (.inr v) 0 l)
/-- the same, where the element's place matters to the test -/
theorem run_allI (p : Nat → α → Bool) (u : Unit ⊕ ρ) : ∀ (i : Nat) (l : List α), run (ρ := Unit ⊕ ρ) (fun j x _ => bif p j x then .inl () else .inr u) (fun s => .inl s) i l () = bif (l.zipIdx i).all (fun q => p q.2 q.1) then .inl () else u
  | _, [] => rfl
  | i, x :: xs => by
    simp only [run, List.zipIdx_cons, List.all_cons]
    cases p i x
    · rfl
    · simpa using run_allI p u (i + 1) xs
theorem Conv_allI {l : List α} {f : Int → Unit → M (Unit ⊕ (Unit ⊕ ρ))} (p : Nat → α → Bool) (v : ρ) (hl : l.length ≤ 9223372036854775807) (H : ∀ (i : Nat) x, l[i]? = some x → Conv (f i ()) (bif p i x then .inl () else .inr (.inr v))) :
    Conv (forI 0 (l.length : Int) (fun s => .inl s) f ()) (bif (l.zipIdx 0).all (fun q => p q.2 q.1) then .inl () else .inr v) :=
  (Conv_forL (fun j x _ => bif p j x then .inl () else .inr (.inr v)) hl fun i x _ hx => H i x hx).of (run_allI p (.inr v) 0 l)
/-- 'for i .. if p x, return i' -/
theorem run_find (p : α → Bool) : ∀ (i : Nat) (l : List α), run (σ := Unit) (ρ := Unit ⊕ Int) (fun j x _ => bif p x then .inr (.inr (j : Int)) else .inl ()) (fun s => .inl s) i l () = match l.findIdx? p with
    | some j => .inr ((i + j : Nat) : Int)
    | none => .inl ()
  | _, [] => rfl
  | i, x :: xs => by
    simp only [run, List.findIdx?_cons]
    cases hp : p x
    · simp only [cond_false, run_find p (i + 1) xs, Bool.false_eq_true, if_false]
      cases xs.findIdx? p with
      | none => rfl
      | some j => simp only [Option.map_some]; congr 2; omega
    · simp
theorem Conv_find {l : List α} {f : Int → Unit → M (Unit ⊕ (Unit ⊕ Int))} (p : α → Bool) (hl : l.length ≤ 9223372036854775807) (H : ∀ (i : Nat) x, l[i]? = some x → Conv (f i ()) (bif p x then .inr (.inr (i : Int)) else .inl ())) :
    Conv (forI 0 (l.length : Int) (fun s => .inl s) f ()) (match l.findIdx? p with | some j => .inr (j : Int) | none => .inl ()) :=
  (Conv_forL (fun j x _ => bif p x then .inr (.inr (j : Int)) else .inl ()) hl fun i x _ hx => H i x hx).of (by rw [run_find]; simp)
/-- sums: each round turns what has been gathered -/
theorem run_fold (g : σ → α → σ) : ∀ (i : Nat) (l : List α) (s : σ), run (fun _ x s => .inl (g s x)) (fun s => s) i l s = l.foldl g s
  | _, [], _ => rfl
  | i, x :: xs, s => by simpa [run] using run_fold g (i + 1) xs (g s x)
theorem Conv_fold {l : List α} {f : Int → σ → M (σ ⊕ σ)} {s : σ} (g : σ → α → σ) (hl : l.length ≤ 9223372036854775807) (H : ∀ (i : Nat) x s, l[i]? = some x → Conv (f i s) (.inl (g s x))) :
    Conv (forI 0 (l.length : Int) (fun s => s) f s) (l.foldl g s) :=
  (Conv_forL (fun _ x s => .inl (g s x)) hl fun i x s hx => H i x s hx).of (run_fold g 0 l s)
theorem get_set_append {l r : List α} {x y : α} : (l ++ y :: r).set l.length x = l ++ x :: r := by simp
/-- a loop that fills a list of the same length, element by element -/
theorem run_fill (g : Nat → α → β) (z : β) : ∀ (i : Nat) (l : List α) (d : List β), d.length = i →
    run (fun j x s => .inl (s.set j (g j x))) (fun s => s) i l (d ++ List.replicate l.length z) = d ++ (l.zipIdx i).map (fun q => g q.2 q.1)
  | _, [], d, _ => by simp [run]
  | i, x :: xs, d, hd => by
    subst hd
    simp only [run, List.length_cons, List.replicate_succ, get_set_append]
    have := run_fill g z (d.length + 1) xs (d ++ [g d.length x]) (by simp)
    simp only [List.append_assoc, List.singleton_append] at this
    rw [this]
    simp
theorem Conv_fill {l : List α} {f : Int → List β → M (List β ⊕ List β)} (g : Nat → α → β) (z : β) (hl : l.length ≤ 9223372036854775807)
    (H : ∀ (i : Nat) x s, l[i]? = some x → s.length = l.length → Conv (f i s) (.inl (s.set i (g i x)))) :
    Conv (forI 0 (l.length : Int) (fun s => s) f (List.replicate l.length z)) ((l.zipIdx 0).map (fun q => g q.2 q.1)) := by
  refine (Conv_forI (fun j x s => .inl (s.set j (g j x))) (fun _ s => s.length = l.length) hl (by simp) fun i x s hx hI => ⟨H i x s hx hI, fun s' e => ?_⟩).of ?_
  · cases e; simpa using hI
  · simpa using run_fill g z 0 l [] rfl
theorem zipIdx_map_fst {l : List α} {g : α → β} {i : Nat} : ((l.zipIdx i).map fun q => g q.1) = l.map g := by
  have h : List.map (g ∘ Prod.fst) (l.zipIdx i) = List.map g l := by rw [← List.map_map, List.zipIdx_map_fst]
  exact h
theorem findIdx_any {l : List α} {p : α → Bool} : (decide ((0:Int) ≤ match l.findIdx? p with | some j => (j : Int) | none => -1)) = l.any p := by
  cases h : l.findIdx? p with
  | none => rw [List.findIdx?_eq_none_iff] at h; simp; exact fun x hx => by simpa using h x hx
  | some j =>
    obtain ⟨hj, hp, _⟩ := List.findIdx?_eq_some_iff_getElem.1 h
    simp
    exact ⟨_, List.getElem_mem hj, hp⟩
end M

theorem spec_l01In_ok (x lo hi : Int) : M.Conv (spec_l01In x lo hi) (decide (lo ≤ x) && decide (x ≤ hi)) := M.Conv_ret _
theorem impl_within_ok (x lo hi : Int) : M.Conv (impl_within x lo hi) (decide (lo ≤ x) && decide (x ≤ hi)) := M.Conv_ret _
/-- 'slices.ContainsFunc', behind 'slices.IndexFunc' -/
theorem contains_ok {α : Type} {l : List α} {f : Int → Unit → M (Unit ⊕ (Unit ⊕ Int))} (p : α → Bool) (hl : l.length ≤ 9223372036854775807) (H : ∀ (i : Nat) x, l[i]? = some x → M.Conv (f i ()) (bif p x then .inr (.inr (i : Int)) else .inl ())) :
    M.Conv (M.bind (M.bind (M.forI 0 (l.length : Int) (fun s => .inl s) f ()) (fun x1 => M.cont x1 (fun _ => M.ret (-1)) (fun r => M.ret r))) (fun x1 => M.ret (decide (0 ≤ x1)))) (l.any p) := by
  rw [← M.findIdx_any]
  refine M.Conv_bind (M.Conv_bind (M.Conv_find p hl H) ?_) (M.Conv_ret _)
  cases l.findIdx? p <;> exact M.Conv_ret _
theorem any_not {α : Type} {l : List α} {p : α → Bool} : (!l.any fun x => !p x) = l.all p := by
  induction l with
  | nil => rfl
  | cons x xs ih => simp only [List.any_cons, List.all_cons, Bool.not_or, Bool.not_not, ih]
theorem mx_eq (a b : Int) : mx a b = max a b := by unfold mx; split <;> omega
/-- marks: element i becomes e (k + w * i) -/
theorem Conv_mark {α : Type} {l : List α} {f : Int → List α × Int → M ((List α × Int) ⊕ (List α × Int))} (w : Int) (e : Int → α) (k : Int) (hl : l.length ≤ 9223372036854775807)
    (H : ∀ (i : Nat) (s : List α), i < l.length → s.length = l.length → M.Conv (f i (s, k + w * i)) (.inl (s.set i (e (k + w * i)), k + w * (i + 1)))) :
    M.Conv (M.forI 0 (l.length : Int) (fun s => s) f (l, k)) ((List.range l.length).map (fun (i : Nat) => e (k + w * i)), k + w * l.length) := by
  refine (M.Conv_forI (l := l) (fun i _ s => .inl (s.1.set i (e (k + w * i)), k + w * (i + 1))) (fun i s => s.1.length = l.length ∧ s.2 = k + w * i) hl ⟨rfl, by simp⟩ fun i x s hx hI => ?_).of ?_
  · obtain ⟨s, q⟩ := s
    obtain ⟨h1, h2⟩ := hI
    simp only at h1 h2
    subst h2
    refine ⟨H i s (List.getElem?_eq_some_iff.1 hx).1 h1, fun s' es => ?_⟩
    cases es
    exact ⟨by simpa using h1, by simp⟩
  · have key : ∀ (xs : List α) (i : Nat) (d : List α), d.length = i → M.run (ρ := List α × Int) (fun i _ s => .inl (s.1.set i (e (k + w * i)), k + w * ((i : Int) + 1))) (fun s => s) i xs (d ++ xs, k + w * i) = (d ++ (List.range xs.length).map (fun (j : Nat) => e (k + w * (i + j : Nat))), k + w * (i + xs.length : Nat)) := by
      intro xs
      induction xs with
      | nil => intro i d hd; simp [M.run]
      | cons x xs ih =>
        intro i d hd
        subst hd
        simp only [M.run]
        have := ih (d.length + 1) (d ++ [e (k + w * d.length)]) (by simp)
        rw [show (d ++ x :: xs).set d.length (e (k + w * d.length)) = d ++ [e (k + w * d.length)] ++ xs by simp]
        rw [show ((d.length : Int) + 1) = ((d.length + 1 : Nat) : Int) by omega, this]
        simp only [List.length_cons, List.range_succ_eq_map, List.map_cons, List.map_map, List.append_assoc, List.singleton_append, Prod.mk.injEq, List.append_cancel_left_eq, List.cons.injEq]
        refine ⟨⟨by simp, List.map_congr_left fun j _ => ?_⟩, by congr 2; omega⟩
        simp only [Function.comp]
        congr 3; omega
    have := key l 0 [] rfl
    simpa using this
theorem Conv_held {α : Type} {l : List α} {f : Int → Int → M (Int ⊕ (Int ⊕ Int))} (w k : Int) (hl : l.length ≤ 9223372036854775807) (H : ∀ (i : Nat) x, l[i]? = some x → M.Conv (f i (k + w * i)) (.inl (k + w * (i + 1)))) :
    M.Conv (M.forI 0 (l.length : Int) (fun s => .inl s) f k) (.inl (k + w * l.length)) := by
  refine (M.Conv_forI (l := l) (fun i _ _ => .inl (k + w * (i + 1))) (fun i s => s = k + w * i) hl (by simp) fun i x s hx hI => ?_).of ?_
  · subst hI
    exact ⟨H i x hx, fun s' es => by cases es; simp⟩
  · have key : ∀ (xs : List α) (i : Nat), M.run (σ := Int) (ρ := Int ⊕ Int) (fun i _ _ => .inl (k + w * ((i : Int) + 1))) (fun s => .inl s) i xs (k + w * i) = .inl (k + w * (i + xs.length : Nat)) := by
      intro xs
      induction xs with
      | nil => intro i; simp [M.run]
      | cons x xs ih =>
        intro i
        simp only [M.run, List.length_cons]
        rw [show ((i : Int) + 1) = ((i + 1 : Nat) : Int) by omega, ih (i + 1)]
        congr 3; omega
    have := key l 0
    simpa using this
/-- two programs, one answer -/
def Two {α : Type} (m m' : M α) (Post : α → Prop) : Prop := ∃ r, M.Conv m r ∧ M.Conv m' r ∧ Post r
theorem Two.mk {α : Type} {m m' : M α} {Post : α → Prop} {r : α} (h : M.Conv m r) (h' : M.Conv m' r) (p : Post r) : Two m m' Post := ⟨r, h, h', p⟩
def okTPlace (p : TPlace) : Prop := inI64 p.From ∧ inI64 p.To ∧ inI64 p.Delay ∧ inI64 p.Tokens
def okTGraph (g : TGraph) : Prop := inI64 g.Events ∧ fitL okTPlace g.Places
def smP (l : List TPlace) : Prop := l.length ≤ 1099511627
def smG (g : TGraph) : Prop := smP g.Places
theorem szG_ok {g : TGraph} (h : okTGraph g) : ∃ z, M.Conv (laws_szEventGraph g 1048576) z ∧ (decide (z < 0) = false → smG g) := by
  have hl := h.2.1
  unfold laws_szEventGraph laws_szPlaceS
  have e : w64 (1048576 - (g.Places.length : Int)) = 1048576 - g.Places.length := w64_eq _ (by omega)
  rw [e]
  by_cases h1 : (1048576 : Int) - g.Places.length < 0
  · refine ⟨-1, M.Conv_bind (x := -1) (M.Conv_ite (fun _ => M.Conv_ret _) (fun q => by have := of_decide_eq_false q; omega)) (M.Conv_ite (fun _ => M.Conv_ret _) (fun q => by simp at q)), fun q => by simp at q⟩
  · refine ⟨1048576 - (g.Places.length : Int), M.Conv_bind (x := 1048576 - (g.Places.length : Int)) (M.Conv_ite (fun q => absurd (of_decide_eq_true q) h1) (fun _ => M.Conv_ret _)) (M.Conv_ite (fun q => absurd (of_decide_eq_true q) h1) (fun _ => M.Conv_ret _)), fun _ => ?_⟩
    simp only [smG, smP]; omega
theorem toPlace_ok {p : TPlace} : M.Conv (laws_toPlace p) p := M.Conv_ret _
theorem toPlaceS_ok {a : List TPlace} (h : smP a) : M.Conv (laws_toPlaceS a) a := by
  unfold smP at h
  unfold laws_toPlaceS
  refine M.Conv_bind (M.Conv_make (by omega) (by omega)) ?_
  refine M.Conv_bind (x := a) (((M.Conv_fill (l := a) (f := _) (fun _ x => x) _ (by omega) fun i x s hx hs => ?_)).of ?_) (M.Conv_ret _)
  · have hi := (List.getElem?_eq_some_iff.1 hx).1
    refine M.Conv_bind (M.Conv_get (by omega) (by simpa using hx)) (M.Conv_bind toPlace_ok ?_)
    refine M.Conv_bind (M.Conv_get (x := s[i]) (by omega) (by simp [show i < s.length by omega])) ?_
    exact M.Conv_bind (M.Conv_upd (by omega)) (M.Conv_ret _)
  · exact M.zipIdx_map_fst.trans (List.map_id' _)
theorem toG_ok {g : TGraph} (h : smG g) : M.Conv (laws_toEventGraph g) g := M.Conv_bind (toPlaceS_ok h) (M.Conv_ret _)
theorem eqPlace_refl {p : TPlace} : M.Conv (laws_eqPlace p p) true := by
  unfold laws_eqPlace
  refine M.Conv_ite (fun q => by simp at q) (fun _ => M.Conv_ite (fun q => by simp at q) (fun _ => M.Conv_ite (fun q => by simp at q) (fun _ => M.Conv_ite (fun q => by simp at q) (fun _ => M.Conv_ret _))))
theorem eqPlaceS_refl {a : List TPlace} (h : smP a) : M.Conv (laws_eqPlaceS a a) true := by
  unfold smP at h
  unfold laws_eqPlaceS
  refine M.Conv_ite (fun q => by simp at q) (fun _ => M.Conv_bind (M.Conv_all (fun _ => true) false (by omega) fun i x hx => ?_) ?_)
  case refine_2 => rw [show (a.all fun _ => true) = true by simp]; exact M.Conv_ret _
  have hg : M.Conv (M.idx a i) x := M.Conv_get (by omega) (by simpa using hx)
  exact M.Conv_bind hg (M.Conv_bind hg (M.Conv_bind eqPlace_refl (M.Conv_ite (fun q => by simp at q) (fun _ => M.Conv_ret _))))
theorem eqG_refl {g : TGraph} (h : smG g) : M.Conv (laws_eqEventGraph g g) true := by
  unfold laws_eqEventGraph
  refine M.Conv_ite (fun q => by simp at q) (fun _ => M.Conv_bind (eqPlaceS_refl h) (M.Conv_ite (fun q => by simp at q) (fun _ => M.Conv_ret _)))
theorem Conv_and {b v : Bool} {m : M Bool} (h : b = true → M.Conv m v) : M.Conv (M.ite b (M.bind m (fun x => M.ret x)) (M.ret false)) (b && v) := by
  refine M.Conv_ite (fun q => ?_) (fun q => ?_)
  · rw [q]; exact M.Conv_bind (h q) (M.Conv_ret _)
  · rw [q]; exact M.Conv_ret _
def inB (x lo hi : Int) : Bool := decide (lo ≤ x) && decide (x ≤ hi)
def placeB (e : Int) (p : TPlace) : Bool := ((inB p.From 0 (w64 (e - 1)) && inB p.To 0 (w64 (e - 1))) && inB p.Delay 0 1000) && inB p.Tokens 0 5
theorem spec_l11Place_ok (p : TPlace) (e : Int) : M.Conv (spec_l11Place p e) (placeB e p) :=
  M.Conv_bind (spec_l01In_ok _ _ _) (M.Conv_bind (Conv_and fun _ => spec_l01In_ok _ _ _) (M.Conv_bind (Conv_and fun _ => spec_l01In_ok _ _ _) (M.Conv_bind (Conv_and fun _ => spec_l01In_ok _ _ _) (M.Conv_ret _))))
theorem impl_isEvent_ok (g : TGraph) (e : Int) : M.Conv (impl_isEvent g e) (inB e 0 (w64 (g.Events - 1))) := M.Conv_bind (impl_within_ok _ _ _) (M.Conv_ret _)
theorem impl_isPlace_ok (g : TGraph) (p : TPlace) : M.Conv (impl_isPlace g p) (placeB g.Events p) :=
  M.Conv_bind (impl_isEvent_ok _ _) (M.Conv_bind (Conv_and fun _ => impl_isEvent_ok _ _) (M.Conv_bind (Conv_and fun _ => impl_within_ok _ _ _) (M.Conv_bind (Conv_and fun _ => impl_within_ok _ _ _) (M.Conv_ret _))))
def graphB (g : TGraph) : Bool := (inB g.Events 1 10 && decide (g.Places.length ≤ 30)) && g.Places.all (placeB g.Events)
/-- 'for i < len(l)', the counter a variable; a round may leave -/
def runO {α ρ : Type} (g : Nat → α → Option ρ) (e : ρ) : Nat → List α → ρ
  | _, [] => e
  | i, x :: xs => match g i x with | none => runO g e (i + 1) xs | some r => r
theorem Conv_while {α ρ : Type} {l : List α} {f : Int → M (Int ⊕ ρ)} (g : Nat → α → Option ρ) (e : ρ) (step : ∀ (i : Nat) x, l[i]? = some x → M.Conv (f i) (match g i x with | none => .inl ((i : Int) + 1) | some r => .inr r)) (stop : M.Conv (f (l.length : Int)) (.inr e)) :
    M.Conv (M.loop f 0) (runO g e 0 l) := by
  have key : ∀ (xs : List α) (i : Nat), (∀ (j : Nat) x, xs[j]? = some x → M.Conv (f (i + j : Nat)) (match g (i + j) x with | none => .inl (((i + j : Nat) : Int) + 1) | some r => .inr r)) → M.Conv (f (i + xs.length : Nat)) (.inr e) →
      ∃ N m0, ∀ n, N ≤ n → ∀ m, m0 ≤ m → M.loopN f n m (i : Int) = some (runO g e i xs) := by
    intro xs
    induction xs with
    | nil =>
      intro i _ ⟨N, h⟩
      refine ⟨N, 1, fun n hn m hm => ?_⟩
      obtain ⟨m, rfl⟩ : ∃ q, m = q + 1 := ⟨m - 1, by omega⟩
      have := h n hn
      simp only [List.length_nil, Nat.add_zero] at this
      simp [M.loopN, this, runO]
    | cons x xs ih =>
      intro i hs hst
      obtain ⟨N, h⟩ := hs 0 x rfl
      simp only [Nat.add_zero] at h
      cases hg : g i x with
      | none =>
        obtain ⟨N', m0, h'⟩ := ih (i + 1) (fun j y hy => by have := hs (j + 1) y (by simpa using hy); rw [show i + (j + 1) = i + 1 + j by omega] at this; exact this) (by rw [show i + 1 + xs.length = i + (x :: xs).length by simp; omega]; exact hst)
        refine ⟨max N N', m0 + 1, fun n hn m hm => ?_⟩
        obtain ⟨m, rfl⟩ : ∃ q, m = q + 1 := ⟨m - 1, by omega⟩
        have h1 := h n (by omega)
        rw [hg] at h1
        simp only [M.loopN, h1, runO, hg]
        exact h' n (by omega) m (by omega)
      | some r =>
        refine ⟨N, 1, fun n hn m hm => ?_⟩
        obtain ⟨m, rfl⟩ : ∃ q, m = q + 1 := ⟨m - 1, by omega⟩
        have h1 := h n hn
        rw [hg] at h1
        simp only [M.loopN, h1, runO, hg]
  obtain ⟨N, m0, h⟩ := key l 0 (fun j x hx => by simpa using step j x hx) (by simpa using stop)
  exact ⟨max N m0, fun n hn => h n (by omega) n (by omega)⟩
theorem runO_all {α ρ : Type} (p : α → Bool) (r e : ρ) : ∀ (l : List α) (i : Nat), runO (fun _ x => bif p x then none else some r) e i l = bif l.all p then e else r
  | [], _ => rfl
  | x :: xs, i => by
    simp only [runO, List.all_cons]
    cases p x with
    | true => simpa using runO_all p r e xs (i + 1)
    | false => rfl
theorem spec_IsEventGraph_ok {g : TGraph} (hl : g.Places.length ≤ 9223372036854775806) : M.Conv (spec_IsEventGraph g) (graphB g) := by
  unfold spec_IsEventGraph
  refine M.Conv_bind ((Conv_while (l := g.Places) (fun _ p => bif placeB g.Events p then none else some (.inr false)) (.inl (g.Places.length : Int)) (fun i p hp => ?_) ?_).of (runO_all _ _ _ _ _)) ?_
  · have hi := (List.getElem?_eq_some_iff.1 hp).1
    refine M.Conv_ite (fun _ => M.Conv_bind (M.Conv_get (by omega) (by simpa using hp)) (M.Conv_bind (spec_l11Place_ok _ _) (M.Conv_ite (fun q => ?_) (fun q => ?_)))) (fun q => by have := of_decide_eq_false q; omega)
    · simp only [Bool.not_eq_true'] at q; rw [q]; exact M.Conv_ret _
    · simp only [Bool.not_eq_false'] at q; rw [q]; exact (M.Conv_ret _).of (by rw [w64_eq _ (by omega)]; rfl)
  · exact M.Conv_ite (fun q => by have := of_decide_eq_true q; omega) (fun _ => M.Conv_ret _)
  · cases hb : g.Places.all (placeB g.Events) with
    | false => exact (M.Conv_ret _).of (by simp [graphB, hb])
    | true =>
      show M.Conv (M.bind (spec_l01In g.Events 1 10) (fun x4 => M.ret (x4 && (decide ((g.Places.length : Int) ≤ 30))))) _
      refine M.Conv_bind (spec_l01In_ok _ _ _) ((M.Conv_ret _).of ?_)
      simp only [graphB, hb, inB, Bool.and_true]
      rw [decide_eq_decide.2 (show (g.Places.length : Int) ≤ 30 ↔ g.Places.length ≤ 30 by omega)]
theorem impl_IsEventGraph_ok {g : TGraph} (hl : g.Places.length ≤ 9223372036854775806) : M.Conv (impl_IsEventGraph g) (graphB g) := by
  unfold impl_IsEventGraph slices_ContainsFunc_Place_F_impl_IsEventGraph_1 slices_IndexFunc_Place_F_impl_IsEventGraph_1
  refine M.Conv_bind (impl_within_ok _ _ _) (M.Conv_bind (x := graphB g) ?_ (M.Conv_ret _))
  have e : ((decide (1 ≤ g.Events) && decide (g.Events ≤ 10)) && decide ((g.Places.length : Int) ≤ 30)) = (inB g.Events 1 10 && decide (g.Places.length ≤ 30)) := by
    rw [decide_eq_decide.2 (show (g.Places.length : Int) ≤ 30 ↔ g.Places.length ≤ 30 by omega)]; rfl
  rw [e]
  refine M.Conv_ite (fun q => ?_) (fun q => (M.Conv_ret _).of (by simp [graphB, q]))
  refine M.Conv_bind (contains_ok (fun p => !placeB g.Events p) (by omega) fun i p hp => ?_) ((M.Conv_ret _).of ?_)
  · refine M.Conv_bind (M.Conv_get (by omega) (by simpa using hp)) (M.Conv_bind (x := !placeB g.Events p) (M.Conv_bind (impl_isPlace_ok _ _) (M.Conv_ret _)) ?_)
    cases placeB g.Events p <;> exact M.Conv_ret _
  · rw [any_not]; simp [graphB, q]
theorem markPlaceS_ok {a : List TPlace} (h : smP a) (k : Int) (h0 : 0 ≤ k) (hk : k ≤ 2305843009213693952) :
    ∃ (k' : Int) (a' : List TPlace), M.Conv (laws_markPlaceS a k) (k', a') ∧ k ≤ k' ∧ k' ≤ k + 1099511627776 ∧ a'.length = a.length ∧ M.Conv (laws_heldPlaceS a' k) k' := by
  unfold smP at h
  let e : Int → TPlace := fun q => ⟨q, q + 1, q + 2, q + 3⟩
  refine ⟨k + 4 * a.length, (List.range a.length).map (fun (i : Nat) => e (k + 4 * (i : Int))), ?_, by omega, by omega, by simp, ?_⟩
  · unfold laws_markPlaceS
    refine M.Conv_bind (Conv_mark 4 e k (by omega) fun i s hi hs => ?_) (M.Conv_ret _)
    have his : i < s.length := by omega
    have w1 : w64 (k + 4 * (i : Int) + 1) = k + 4 * i + 1 := w64_eq _ (by omega)
    have w2 : w64 (k + 4 * (i : Int) + 1 + 1) = k + 4 * i + 2 := (w64_eq _ (by omega)).trans (by omega)
    have w3 : w64 (k + 4 * (i : Int) + 2 + 1) = k + 4 * i + 3 := (w64_eq _ (by omega)).trans (by omega)
    have w4 : w64 (k + 4 * (i : Int) + 3 + 1) = k + 4 * (i + 1) := (w64_eq _ (by omega)).trans (by omega)
    have g : ∀ y : TPlace, M.Conv (M.idx (s.set i y) (i : Int)) y := fun y => M.Conv_get (by omega) (by simp [his])
    simp only [w1, w2, w3, w4]
    refine M.Conv_bind (M.Conv_get (x := s[i]) (by omega) (by simp [his])) (M.Conv_bind (M.Conv_upd his) (M.Conv_bind (g _) (M.Conv_bind (M.Conv_upd (by simpa using his)) ?_)))
    rw [List.set_set]
    refine M.Conv_bind (g _) (M.Conv_bind (M.Conv_upd (by simpa using his)) ?_)
    rw [List.set_set]
    refine M.Conv_bind (g _) (M.Conv_bind (M.Conv_upd (by simpa using his)) ?_)
    rw [List.set_set]
    exact M.Conv_ret _
  · unfold laws_heldPlaceS
    have hl : ((List.range a.length).map fun i : Nat => e (k + 4 * (i : Int))).length = a.length := by simp
    refine M.Conv_bind (Conv_held 4 k (by rw [hl]; omega) fun i x hx => ?_) ((M.Conv_ret _).of (by rw [hl]))
    have hi := (List.getElem?_eq_some_iff.1 hx).1
    rw [hl] at hi
    have ex : x = e (k + 4 * i) := by simp [hi] at hx; exact hx.symm
    have w1 : w64 (k + 4 * (i : Int) + 1) = k + 4 * i + 1 := w64_eq _ (by omega)
    have w2 : w64 (k + 4 * (i : Int) + 1 + 1) = k + 4 * i + 2 := (w64_eq _ (by omega)).trans (by omega)
    have w3 : w64 (k + 4 * (i : Int) + 2 + 1) = k + 4 * i + 3 := (w64_eq _ (by omega)).trans (by omega)
    have w4 : w64 (k + 4 * (i : Int) + 3 + 1) = k + 4 * (i + 1) := (w64_eq _ (by omega)).trans (by omega)
    have g := M.Conv_get (l := (List.range a.length).map fun i : Nat => e (k + 4 * (i : Int))) (i := (i : Int)) (by omega) (by simpa using hx)
    subst ex
    simp only [w1, w2, w3, w4]
    exact M.Conv_bind g (M.Conv_ite (fun q => by simp [e] at q) (fun _ => M.Conv_bind g (M.Conv_ite (fun q => by simp [e] at q) (fun _ => M.Conv_bind g (M.Conv_ite (fun q => by simp [e] at q) (fun _ => M.Conv_bind g (M.Conv_ite (fun q => by simp [e] at q) (fun _ => M.Conv_ret _))))))))
theorem markG_ok {g : TGraph} (h : smG g) (k : Int) (h0 : 0 ≤ k) (hk : k ≤ 2305843009213693952) :
    ∃ (k' : Int) (a' : List TPlace), M.Conv (laws_markEventGraph g k) (k', a') ∧ k ≤ k' ∧ k' ≤ k + 1099511627776 ∧ a'.length = g.Places.length ∧ M.Conv (laws_heldPlaceS a' k) k' := by
  obtain ⟨k', a', h1, h2, h3, h4, h5⟩ := markPlaceS_ok h k h0 hk
  exact ⟨k', a', M.Conv_bind h1 (M.Conv_ret _), h2, h3, h4, h5⟩
theorem heldG_of {a' : List TPlace} {k k' e : Int} (h0 : 0 ≤ k) (hk : k ≤ k') (h : M.Conv (laws_heldPlaceS a' k) k') : M.Conv (laws_heldEventGraph ⟨e, a'⟩ k) k' :=
  M.Conv_bind h (M.Conv_ite (fun q => by have := of_decide_eq_true q; omega) (fun _ => M.Conv_ret _))
theorem slices_Clone_Place_ok {l : List TPlace} (h : smP l) : M.Conv (slices_Clone_Place l) l := by
  unfold smP at h
  exact M.Conv_bind (M.Conv_app (by simp; omega)) ((M.Conv_ret _).of (by simp))
theorem impl_cloneGraph_ok {g : TGraph} (h : smG g) : M.Conv (impl_cloneGraph g) g := M.Conv_bind (slices_Clone_Place_ok h) (M.Conv_ret _)
def nd (l : List Int) (i : Nat) : Int := (l[i]?).getD 0
theorem nd_read {l : List Int} {i : Nat} (h : i < l.length) : M.Conv (M.idx l (i : Int)) (nd l i) := by
  have : l[i]? = some (l[i]'h) := List.getElem?_eq_getElem _
  refine M.Conv_idx ?_
  unfold nd; rw [this]; rfl
theorem sm0G : smG (⟨0, []⟩ : TGraph) := by simp [smG, smP]
namespace M
end M

section
variable {a : List (List Int)} {l : List Nat} {W : Int} {r : TRatio} {S : List (List Int)}
end

def bef (p q : TPlace) : Prop := p.From < q.From ∨ (p.From = q.From ∧ (p.To < q.To ∨ (p.To = q.To ∧ p.Tokens < q.Tokens)))
def sameK (p q : TPlace) : Prop := p.From = q.From ∧ p.To = q.To ∧ p.Tokens = q.Tokens
instance (p q : TPlace) : Decidable (bef p q) := by unfold bef; exact inferInstance
instance (p q : TPlace) : Decidable (sameK p q) := by unfold sameK; exact inferInstance
theorem before_ok (p q : TPlace) : M.Conv (spec_l11Before p q) (decide (bef p q)) := by
  unfold spec_l11Before
  have key : M.TC (spec_l01Less ([p.From, p.To, p.Tokens] : List Int) ([q.From, q.To, q.Tokens] : List Int)) (fun b => b = decide (bef p q)) := by
    unfold spec_l01Less
    have r : ∀ k : Nat, k < 3 → ∀ x y z : Int, M.Conv (M.idx [x, y, z] (k : Int)) (nd [x, y, z] k) := fun k hk x y z => nd_read (by simp; omega)
    have hl : ∀ x y z : Int, (([x, y, z] : List Int).length : Int) = 3 := fun _ _ _ => rfl
    have n0 : ∀ x y z : Int, nd [x, y, z] 0 = x := fun _ _ _ => rfl
    have n1 : ∀ x y z : Int, nd [x, y, z] 1 = y := fun _ _ _ => rfl
    have n2 : ∀ x y z : Int, nd [x, y, z] 2 = z := fun _ _ _ => rfl
    refine M.TC_bind (Mid := fun (y : Int ⊕ Bool) => (∃ s, y = .inl s ∧ sameK p q) ∨ ∃ b, y = .inr b ∧ b = decide (bef p q)) (M.TC_loop (fun (s : Int) => (s = 0 ∨ (s = 1 ∧ p.From = q.From) ∨ (s = 2 ∧ p.From = q.From ∧ p.To = q.To) ∨ (s = 3 ∧ sameK p q))) (fun s => (3 - s).toNat) _ (.inl rfl) fun s hI => ?_) fun y hy => ?_
    · rw [hl, hl]
      rcases hI with rfl | ⟨rfl, h1⟩ | ⟨rfl, h1, h2⟩ | ⟨rfl, h1⟩
      · have a1 := r 0 (by omega) p.From p.To p.Tokens
        have a2 := r 0 (by omega) q.From q.To q.Tokens
        rw [n0] at a1 a2
        refine M.TC_ite (fun _ => M.TC_bindC a1 (M.TC_bindC a2 (M.TC_ite (fun t => M.TC_bindC a1 (M.TC_bindC a2 (M.TC_ret (.inr ⟨_, rfl, .inr ⟨_, rfl, ?_⟩⟩)))) (fun t => M.TC_ret (.inl ⟨_, rfl, .inr (.inl ⟨rfl, by simpa using t⟩), by decide⟩))))) (fun t => by cases t)
        have t : p.From ≠ q.From := by simpa using t
        rw [decide_eq_decide]
        unfold bef; omega
      · have a1 := r 1 (by omega) p.From p.To p.Tokens
        have a2 := r 1 (by omega) q.From q.To q.Tokens
        rw [n1] at a1 a2
        refine M.TC_ite (fun _ => M.TC_bindC a1 (M.TC_bindC a2 (M.TC_ite (fun t => M.TC_bindC a1 (M.TC_bindC a2 (M.TC_ret (.inr ⟨_, rfl, .inr ⟨_, rfl, ?_⟩⟩)))) (fun t => M.TC_ret (.inl ⟨_, rfl, .inr (.inr (.inl ⟨rfl, h1, by simpa using t⟩)), by decide⟩))))) (fun t => by cases t)
        have t : p.To ≠ q.To := by simpa using t
        rw [decide_eq_decide]
        unfold bef; omega
      · have a1 := r 2 (by omega) p.From p.To p.Tokens
        have a2 := r 2 (by omega) q.From q.To q.Tokens
        rw [n2] at a1 a2
        refine M.TC_ite (fun _ => M.TC_bindC a1 (M.TC_bindC a2 (M.TC_ite (fun t => M.TC_bindC a1 (M.TC_bindC a2 (M.TC_ret (.inr ⟨_, rfl, .inr ⟨_, rfl, ?_⟩⟩)))) (fun t => M.TC_ret (.inl ⟨_, rfl, .inr (.inr (.inr ⟨rfl, h1, h2, by simpa using t⟩)), by decide⟩))))) (fun t => by cases t)
        have t : p.Tokens ≠ q.Tokens := by simpa using t
        rw [decide_eq_decide]
        unfold bef; omega
      · exact M.TC_ite (fun t => by cases t) (fun _ => M.TC_ret (.inr ⟨_, rfl, .inl ⟨_, rfl, h1⟩⟩))
    · rcases hy with ⟨s, rfl, h⟩ | ⟨b, rfl, h⟩
      · refine M.TC_ret ?_
        rw [hl, hl, decide_eq_decide]
        unfold bef
        unfold sameK at h
        omega
      · exact M.TC_ret h
  obtain ⟨b, b1, rfl⟩ := key
  exact M.Conv_bind b1 (M.Conv_ret _)
/-- L is what is left of the places S: in order, of each kind the longest -/
structure SimpP (S : TPlace → Prop) (L : List TPlace) : Prop where
  ord : L.Pairwise bef
  sub : ∀ p ∈ L, S p
  all : ∀ q, S q → ∃ z ∈ L, sameK q z ∧ q.Delay ≤ z.Delay
theorem pair_same {L : List TPlace} (h : L.Pairwise bef) {p q : TPlace} (hp : p ∈ L) (hq : q ∈ L) (hs : sameK p q) : p = q := by
  induction L with
  | nil => simp at hp
  | cons x t ih =>
    rw [List.pairwise_cons] at h
    obtain ⟨h1, h2⟩ := h
    rcases List.mem_cons.1 hp with e1 | hp1
    · rcases List.mem_cons.1 hq with e2 | hq1
      · rw [e1, e2]
      · have := h1 q hq1
        rw [e1] at hs
        unfold bef at this; unfold sameK at hs; omega
    · rcases List.mem_cons.1 hq with e2 | hq1
      · have := h1 p hp1
        rw [e2] at hs
        unfold bef at this; unfold sameK at hs; omega
      · exact ih h2 hp1 hq1
theorem SimpP.mem {S : TPlace → Prop} {L L' : List TPlace} (h : SimpP S L) (h' : SimpP S L') {p : TPlace} (hp : p ∈ L) : p ∈ L' := by
  obtain ⟨z, hz, k1, d1⟩ := h'.all p (h.sub p hp)
  obtain ⟨w, hw, k2, d2⟩ := h.all z (h'.sub z hz)
  have e : p = w := pair_same h.ord hp hw (by unfold sameK at *; omega)
  subst e
  have : p = z := by
    unfold sameK at k1
    cases p; cases z
    simp only [TPlace.mk.injEq] at *
    omega
  rw [this]; exact hz
theorem ord_ext : ∀ {L L' : List TPlace}, L.Pairwise bef → L'.Pairwise bef → (∀ p, p ∈ L ↔ p ∈ L') → L = L'
  | [], L', _, _, h => by
    cases L' with
    | nil => rfl
    | cons x t => exact absurd ((h x).2 (by simp)) (by simp)
  | x :: t, [], _, _, h => absurd ((h x).1 (by simp)) (by simp)
  | x :: t, y :: u, h1, h2, h => by
    rw [List.pairwise_cons] at h1 h2
    have e : x = y := by
      rcases List.mem_cons.1 ((h x).1 (by simp)) with e | hx
      · exact e
      · rcases List.mem_cons.1 ((h y).2 (by simp)) with e | hy
        · exact e.symm
        · have a := h1.1 y hy
          have b := h2.1 x hx
          unfold bef at a b; omega
    subst e
    congr 1
    refine ord_ext h1.2 h2.2 fun p => ⟨fun hp => ?_, fun hp => ?_⟩
    · rcases List.mem_cons.1 ((h p).1 (by simp [hp])) with e | hq
      · have := h1.1 p hp
        rw [e] at this; unfold bef at this; omega
      · exact hq
    · rcases List.mem_cons.1 ((h p).2 (by simp [hp])) with e | hq
      · have := h2.1 p hp
        rw [e] at this; unfold bef at this; omega
      · exact hq
theorem SimpP.unique {S : TPlace → Prop} {L L' : List TPlace} (h : SimpP S L) (h' : SimpP S L') : L = L' := ord_ext h.ord h'.ord fun _ => ⟨h.mem h', h'.mem h⟩
theorem SimpP.put {S : TPlace → Prop} {A B : List TPlace} {x : TPlace} (h : SimpP S (A ++ B)) (hA : ∀ a ∈ A, bef a x) (hB : ∀ b ∈ B, bef x b) : SimpP (fun p => S p ∨ p = x) (A ++ x :: B) := by
  have ho := List.pairwise_append.1 h.ord
  refine ⟨List.pairwise_append.2 ⟨ho.1, List.pairwise_cons.2 ⟨hB, ho.2.1⟩, fun a ha b hb => ?_⟩, fun p hp => ?_, fun q hq => ?_⟩
  · rcases List.mem_cons.1 hb with rfl | hb
    · exact hA a ha
    · exact ho.2.2 a ha b hb
  · rcases List.mem_append.1 hp with hp | hp
    · exact .inl (h.sub p (List.mem_append.2 (.inl hp)))
    · rcases List.mem_cons.1 hp with rfl | hp
      · exact .inr rfl
      · exact .inl (h.sub p (List.mem_append.2 (.inr hp)))
  · rcases hq with hq | rfl
    · obtain ⟨z, hz, k⟩ := h.all q hq
      refine ⟨z, ?_, k⟩
      rcases List.mem_append.1 hz with hz | hz
      · exact List.mem_append.2 (.inl hz)
      · exact List.mem_append.2 (.inr (List.mem_cons_of_mem _ hz))
    · exact ⟨q, by simp, ⟨rfl, rfl, rfl⟩, Int.le_refl _⟩
theorem SimpP.swap {S : TPlace → Prop} {A B : List TPlace} {x b : TPlace} (h : SimpP S (A ++ b :: B)) (hk : sameK b x) : SimpP (fun p => S p ∨ p = x) (A ++ ⟨b.From, b.To, mx b.Delay x.Delay, b.Tokens⟩ :: B) := by
  have ho := List.pairwise_append.1 h.ord
  have hc := List.pairwise_cons.1 ho.2.1
  have hmx := mx_eq b.Delay x.Delay
  generalize mx b.Delay x.Delay = d at *
  refine ⟨List.pairwise_append.2 ⟨ho.1, List.pairwise_cons.2 ⟨fun p hp => ?_, hc.2⟩, fun p hp q hq => ?_⟩, fun p hp => ?_, fun q hq => ?_⟩
  · exact hc.1 p hp
  · rcases List.mem_cons.1 hq with rfl | hq
    · exact ho.2.2 p hp b (by simp)
    · exact ho.2.2 p hp q (by simp [hq])
  · rcases List.mem_append.1 hp with hp | hp
    · exact .inl (h.sub p (List.mem_append.2 (.inl hp)))
    · rcases List.mem_cons.1 hp with rfl | hp
      · by_cases e : x.Delay ≤ b.Delay
        · have : d = b.Delay := by omega
          subst this
          exact .inl (h.sub b (by simp))
        · right
          unfold sameK at hk
          cases x; cases b
          simp only [TPlace.mk.injEq] at *
          omega
      · exact .inl (h.sub p (by simp [hp]))
  · rcases hq with hq | rfl
    · obtain ⟨z, hz, k1, k2⟩ := h.all q hq
      rcases List.mem_append.1 hz with hz | hz
      · exact ⟨z, List.mem_append.2 (.inl hz), k1, k2⟩
      · rcases List.mem_cons.1 hz with rfl | hz
        · exact ⟨_, List.mem_append.2 (.inr (List.mem_cons_self)), k1, by (try simp only); omega⟩
        · exact ⟨z, by simp [hz], k1, k2⟩
    · refine ⟨_, List.mem_append.2 (.inr (List.mem_cons_self)), ?_, by (try simp only); omega⟩
      unfold sameK at hk ⊢
      (try simp only); omega
theorem SimpP.ext {S S' : TPlace → Prop} {L : List TPlace} (h : SimpP S L) (e : ∀ p, S p ↔ S' p) : SimpP S' L := ⟨h.ord, fun p hp => (e p).1 (h.sub p hp), fun q hq => h.all q ((e q).2 hq)⟩
def keepK (p : TPlace) : List TPlace → List TPlace
  | [] => []
  | x :: t => if sameK x p then keepK x t else x :: keepK x t
def dd : List TPlace → List TPlace
  | [] => []
  | x :: t => x :: keepK x t
theorem keepK_snoc (x : TPlace) : ∀ (l : List TPlace) (p : TPlace), keepK p (l ++ [x]) = keepK p l ++ (if sameK x ((p :: l).getLast (by simp)) then [] else [x])
  | [], p => by
    simp only [List.nil_append, keepK, List.getLast_singleton]
    rfl
  | y :: t, p => by
    have ih := keepK_snoc x t y
    simp only [List.cons_append, keepK]
    rw [List.getLast_cons (by simp)]
    split
    · exact ih
    · rw [ih]; rfl
theorem dd_snoc {l : List TPlace} (x : TPlace) (h : l ≠ []) : dd (l ++ [x]) = dd l ++ (if sameK x (l.getLast h) then [] else [x]) := by
  cases l with
  | nil => exact absurd rfl h
  | cons y t => simp only [List.cons_append, dd]; rw [keepK_snoc]
/-- no later one stands before an earlier one; of one kind the longest first -/
def leP (p q : TPlace) : Prop := bef p q ∨ (sameK p q ∧ q.Delay ≤ p.Delay)
theorem keepK_ok : ∀ (l : List TPlace) (p : TPlace), (p :: l).Pairwise leP → (∀ z ∈ keepK p l, bef p z) ∧ (keepK p l).Pairwise bef ∧ (∀ z ∈ keepK p l, z ∈ l) ∧ ∀ q, q ∈ p :: l → ∃ z, z ∈ p :: keepK p l ∧ sameK q z ∧ q.Delay ≤ z.Delay
  | [], p, _ => ⟨by simp [keepK], by simp [keepK], by simp [keepK], fun q hq => ⟨q, by simpa [keepK] using hq, ⟨rfl, rfl, rfl⟩, Int.le_refl _⟩⟩
  | y :: t, p, h => by
    rw [List.pairwise_cons] at h
    obtain ⟨i1, i2, i3, i4⟩ := keepK_ok t y h.2
    have hpy := h.1 y (by simp)
    unfold leP at hpy
    by_cases e : sameK y p
    · have ek : keepK p (y :: t) = keepK y t := by simp only [keepK, if_pos e]
      rw [ek]
      refine ⟨fun z hz => ?_, i2, fun z hz => List.mem_cons_of_mem _ (i3 z hz), fun q hq => ?_⟩
      · have := i1 z hz
        unfold bef at *; unfold sameK at e; omega
      · rcases List.mem_cons.1 hq with rfl | hq
        · exact ⟨q, by simp, ⟨rfl, rfl, rfl⟩, Int.le_refl _⟩
        · obtain ⟨z, hz, k1, k2⟩ := i4 q hq
          rcases List.mem_cons.1 hz with rfl | hz
          · refine ⟨p, by simp, ?_, ?_⟩
            · unfold sameK at *; omega
            · unfold sameK at e; unfold bef at hpy; omega
          · exact ⟨z, List.mem_cons_of_mem _ hz, k1, k2⟩
    · have ek : keepK p (y :: t) = y :: keepK y t := by simp only [keepK, if_neg e]
      have hb : bef p y := hpy.resolve_right fun q => e (by have := q.1; unfold sameK at *; omega)
      rw [ek]
      refine ⟨fun z hz => ?_, List.pairwise_cons.2 ⟨i1, i2⟩, fun z hz => ?_, fun q hq => ?_⟩
      · rcases List.mem_cons.1 hz with rfl | hz
        · exact hb
        · have := i1 z hz
          unfold bef at *; omega
      · rcases List.mem_cons.1 hz with rfl | hz
        · simp
        · exact List.mem_cons_of_mem _ (i3 z hz)
      · rcases List.mem_cons.1 hq with rfl | hq
        · exact ⟨q, by simp, ⟨rfl, rfl, rfl⟩, Int.le_refl _⟩
        · obtain ⟨z, hz, k⟩ := i4 q hq
          exact ⟨z, List.mem_cons_of_mem _ hz, k⟩
theorem dd_ok {M : List TPlace} (h : M.Pairwise leP) : SimpP (fun p => p ∈ M) (dd M) := by
  cases M with
  | nil => exact ⟨by simp [dd], by simp [dd], by simp⟩
  | cons x t =>
    obtain ⟨i1, i2, i3, i4⟩ := keepK_ok t x h
    refine ⟨List.pairwise_cons.2 ⟨i1, i2⟩, fun p hp => ?_, fun q hq => i4 q hq⟩
    rcases List.mem_cons.1 hp with rfl | hp
    · simp
    · exact List.mem_cons_of_mem _ (i3 p hp)

theorem take_snocP {l : List TPlace} {k : Nat} {x : TPlace} (h : l[k]? = some x) : l.take (k + 1) = l.take k ++ [x] := by rw [List.take_add_one, h]; rfl
theorem spec_simp {g : TGraph} (s : smG g) (hg : graphB g = true) : ∃ L, M.Conv (spec_SimplifyGraph g) (⟨g.Events, L⟩, 0) ∧ SimpP (fun p => p ∈ g.Places) L ∧ smP L := by
  have hs := s
  simp only [smG, smP] at hs
  have key : M.TC (M.loop (fun (s1 : (List TPlace) × Int) => M.ite (decide (s1.2 < (g.Places.length : Int))) (M.bind (M.bind (M.idx g.Places s1.2) (fun x3 => M.bind (M.loop (fun (s3 : Int) => M.bind (M.ite (decide (s3 < (s1.1.length : Int))) (M.bind (M.idx s1.1 s3) (fun x6 => M.bind (spec_l11Before x6 x3) (fun x7 => M.ret x7))) (M.ret false)) (fun x5 => M.ite x5 (M.ret (.inl (w64 (s3 + 1)))) (M.ret (.inr s3)))) 0) (fun x4 => M.bind (M.ite (decide (x4 < (s1.1.length : Int))) (M.bind (M.idx s1.1 x4) (fun x9 => M.bind (spec_l11Before x3 x9) (fun x10 => M.ret (!x10)))) (M.ret false)) (fun x8 => M.ite x8 (M.bind (M.idx s1.1 x4) (fun x11 => M.bind (M.idx s1.1 x4) (fun x12 => M.bind (M.upd s1.1 x4 (⟨x12.From, x12.To, (mx x11.Delay x3.Delay), x12.Tokens⟩ : TPlace)) (fun l1 => M.ret l1)))) (M.bind (M.bind (M.sub s1.1 0 x4) (fun x15 => M.bind (M.sub s1.1 x4 (s1.1.length : Int)) (fun x16 => M.bind (M.app ([] : List TPlace) x15) (fun l2 => M.bind (M.app l2 ([x3] : List TPlace)) (fun l3 => M.bind (M.app l3 x16) (fun l4 => M.ret l4)))))) (fun (s4 : (List TPlace)) => M.ret s4)))))) (fun (s2 : (List TPlace)) => M.ret (.inl (s2, (w64 (s1.2 + 1)))))) (M.ret (.inr (s1.1, s1.2)))) (([] : List TPlace), 0)) (fun (w : List TPlace × Int) => SimpP (fun p => p ∈ g.Places) w.1 ∧ smP w.1) := by
    refine M.TC_loop (fun (w : List TPlace × Int) => ∃ k : Nat, w.2 = k ∧ k ≤ g.Places.length ∧ w.1.length ≤ k ∧ SimpP (fun p => p ∈ g.Places.take k) w.1) (fun w => ((g.Places.length : Int) - w.2).toNat) _ ⟨0, rfl, by omega, by simp, ⟨by simp, by simp, by simp⟩⟩ fun w hI => ?_
    obtain ⟨k, ek, hk, hl, hS⟩ := hI
    obtain ⟨L, idx⟩ := w
    (try simp only at ek hl hS ⊢)
    subst ek
    refine M.TC_ite (fun t => ?_) (fun t => M.TC_ret (.inr ⟨_, rfl, ?_⟩))
    · have hk' : k < g.Places.length := by have := of_decide_eq_true t; omega
      have hx := List.getElem?_eq_getElem hk'
      generalize g.Places[k] = x at hx
      have etk := take_snocP hx
      have hmem : ∀ p, (p ∈ g.Places.take k ∨ p = x) ↔ p ∈ g.Places.take (k + 1) := fun p => by rw [etk, List.mem_append, List.mem_singleton]
      refine M.TC_bind (Mid := fun L' => L'.length ≤ k + 1 ∧ SimpP (fun p => p ∈ g.Places.take (k + 1)) L') (M.TC_bindC (M.Conv_idx hx) ?_) fun L' hL' => M.TC_ret (.inl ⟨_, rfl, ⟨k + 1, ?_, by omega, hL'.1, hL'.2⟩, ?_⟩)
      · refine M.TC_bind (Mid := fun (j : Int) => ∃ q : Nat, j = (q : Int) ∧ q ≤ L.length ∧ (∀ a ∈ L.take q, bef a x) ∧ (q = L.length ∨ ∃ b, L[q]? = some b ∧ ¬ bef b x)) (M.TC_loop (fun (j : Int) => ∃ q : Nat, j = (q : Int) ∧ q ≤ L.length ∧ ∀ a ∈ L.take q, bef a x) (fun (j : Int) => ((L.length : Int) - j).toNat) _ ⟨0, rfl, by omega, by simp⟩ fun j hJ => ?_) fun j hJ => ?_
        · obtain ⟨q, rfl, hq, hJ⟩ := hJ
          by_cases e : q = L.length
          · refine M.TC_bindC (x := false) (M.Conv_ite (fun t => by have := of_decide_eq_true t; omega) (fun _ => M.Conv_ret _)) (M.TC_ite (fun t => by cases t) (fun _ => M.TC_ret (.inr ⟨_, rfl, q, rfl, hq, hJ, .inl e⟩)))
          · have hq' : q < L.length := by omega
            have hb := List.getElem?_eq_getElem hq'
            generalize L[q] = b at hb
            refine M.TC_bindC (x := decide (bef b x)) (M.Conv_ite (fun _ => M.Conv_bind (M.Conv_idx hb) (M.Conv_bind (before_ok b x) (M.Conv_ret _))) (fun t => by have := of_decide_eq_false t; omega)) (M.TC_ite (fun t => M.TC_ret (.inl ⟨_, rfl, ⟨q + 1, ?_, by omega, fun a ha => ?_⟩, ?_⟩)) (fun t => M.TC_ret (.inr ⟨_, rfl, q, rfl, hq, hJ, .inr ⟨b, hb, of_decide_eq_false t⟩⟩)))
            · rw [w64_eq _ (by omega)]; omega
            · rw [take_snocP hb, List.mem_append, List.mem_singleton] at ha
              rcases ha with ha | rfl
              · exact hJ a ha
              · exact of_decide_eq_true t
            · rw [w64_eq _ (by omega)]; omega
        · obtain ⟨q, rfl, hq, hA, hB⟩ := hJ
          have hsp := (List.take_append_drop q L).symm
          have ins : (∀ b ∈ L.drop q, bef x b) → M.TC (M.bind (M.bind (M.sub L 0 (q : Int)) (fun x15 => M.bind (M.sub L (q : Int) (L.length : Int)) (fun x16 => M.bind (M.app ([] : List TPlace) x15) (fun l2 => M.bind (M.app l2 ([x] : List TPlace)) (fun l3 => M.bind (M.app l3 x16) (fun l4 => M.ret l4)))))) (fun (s4 : (List TPlace)) => M.ret s4)) (fun L' => L'.length ≤ k + 1 ∧ SimpP (fun p => p ∈ g.Places.take (k + 1)) L') := fun hb => by
            have e1 : M.Conv (M.sub L 0 (q : Int)) (L.take q) := (M.Conv_sub (by omega) (by omega) (by omega)).of (by simp)
            have e2 : M.Conv (M.sub L (q : Int) (L.length : Int)) (L.drop q) := (M.Conv_sub (by omega) (by omega) (by omega)).of (by simp only [Int.toNat_natCast]; exact List.take_of_length_le (by rw [List.length_drop]; omega))
            refine M.TC_bindC (x := L.take q ++ x :: L.drop q) (M.Conv_bind e1 (M.Conv_bind e2 (M.Conv_bind (M.Conv_app (by simp; omega)) (M.Conv_bind (M.Conv_app (by simp; omega)) (M.Conv_bind (M.Conv_app (by simp; omega)) ((M.Conv_ret _).of (by simp))))))) (M.TC_ret ⟨?_, ?_⟩)
            · simp; omega
            · rw [hsp] at hS
              exact (hS.put hA hb).ext hmem
          rcases hB with e | ⟨b, hb, hnb⟩
          · exact M.TC_bindC (x := false) (M.Conv_ite (fun t => by have := of_decide_eq_true t; omega) (fun _ => M.Conv_ret _)) (M.TC_ite (fun t => by cases t) (fun _ => ins (by rw [e, List.drop_length]; simp)))
          · obtain ⟨hq', _⟩ := List.getElem?_eq_some_iff.1 hb
            have edr : L.drop q = b :: L.drop (q + 1) := by
              rw [List.getElem?_eq_getElem hq'] at hb
              rw [List.drop_eq_getElem_cons hq', Option.some.inj hb]
            refine M.TC_bindC (x := !(decide (bef x b))) (M.Conv_ite (fun _ => M.Conv_bind (M.Conv_idx hb) (M.Conv_bind (before_ok x b) (M.Conv_ret _))) (fun t => by have := of_decide_eq_false t; omega)) (M.TC_ite (fun t => ?_) (fun t => ins fun b' hb' => ?_))
            · have hnx : ¬ bef x b := by simpa using t
              have hk : sameK b x := by unfold bef at hnb hnx; unfold sameK; omega
              refine M.TC_bindC (M.Conv_idx hb) (M.TC_bindC (M.Conv_idx hb) (M.TC_bindC (M.Conv_upd hq') (M.TC_ret ⟨?_, ?_⟩)))
              · rw [List.length_set]; omega
              · rw [List.set_eq_take_append_cons_drop, if_pos hq']
                rw [hsp, edr] at hS
                exact (hS.swap hk).ext hmem
            · have hxb : bef x b := by simpa using t
              rw [edr] at hb'
              rcases List.mem_cons.1 hb' with rfl | hb'
              · exact hxb
              · rw [hsp, edr] at hS
                have := (List.pairwise_cons.1 (List.pairwise_append.1 hS.ord).2.1).1 b' hb'
                unfold bef at *; omega
      · (try simp only); rw [w64_eq _ (by omega)]; omega
      · (try simp only); rw [w64_eq _ (by omega)]; omega
    · have : k = g.Places.length := by have := of_decide_eq_false t; omega
      rw [this, List.take_length] at hS
      exact ⟨hS, by simp only [smP]; omega⟩
  obtain ⟨w, w1, w2, w3⟩ := key
  refine ⟨w.1, ?_, w2, w3⟩
  unfold spec_SimplifyGraph
  exact M.Conv_bind (spec_IsEventGraph_ok (by omega)) (M.Conv_ite (fun t => by rw [hg] at t; cases t) (fun _ => M.Conv_bind w1 (M.Conv_ret _)))
theorem same2_ok (p q : TPlace) : M.Conv (impl_simplified_2 p q) (decide (sameK p q)) := (M.Conv_ret _).of (by
  rw [Bool.eq_iff_iff, decide_eq_true_iff]
  unfold sameK
  simp only [Bool.and_eq_true, beq_iff_eq, and_assoc])
theorem dd_take {l : List TPlace} {k : Nat} {x y : TPlace} (hk : 1 ≤ k) (hx : l[k]? = some x) (hy : l[k - 1]? = some y) : dd (l.take (k + 1)) = dd (l.take k) ++ (if sameK x y then [] else [x]) := by
  obtain ⟨q, rfl⟩ : ∃ q, k = q + 1 := ⟨k - 1, by omega⟩
  rw [Nat.add_sub_cancel] at hy
  have e := take_snocP hy
  have hne : l.take (q + 1) ≠ [] := by rw [e]; simp
  rw [take_snocP hx, dd_snoc x hne]
  have : (l.take (q + 1)).getLast hne = y := by simp only [e, List.getLast_concat]
  rw [this]
theorem compact_tc {s : List TPlace} (hs : s.length ≤ 1099511627) : M.TC (slices_CompactFunc_Place_F_impl_simplified_2 s) (fun r => r = dd s) := by
  unfold slices_CompactFunc_Place_F_impl_simplified_2
  refine M.TC_ite (fun t => M.TC_ret ?_) (fun t => ?_)
  · have := of_decide_eq_true t
    match s, this with
    | [], _ => rfl
    | [x], _ => rfl
    | x :: y :: t, h => simp at h; omega
  have hn : 2 ≤ s.length := by have := of_decide_eq_false t; omega
  have get : ∀ i, i < s.length → ∃ x, s[i]? = some x := fun i hi => ⟨_, List.getElem?_eq_getElem hi⟩
  refine M.TC_bind (Mid := fun (y : Int ⊕ List TPlace) => (∃ v, y = .inl v ∧ dd s = s) ∨ ∃ r, y = .inr r ∧ r = dd s) (M.TC_loop (fun (v : Int) => ∃ k : Nat, v = k ∧ 1 ≤ k ∧ k ≤ s.length ∧ dd (s.take k) = s.take k) (fun v => ((s.length : Int) - v).toNat) _ ⟨1, rfl, by omega, by omega, ?_⟩ fun v hI => ?_) fun y hy => ?_
  · cases s with
    | nil => simp at hn
    | cons x t => rfl
  · obtain ⟨k, rfl, k1, k2, hd⟩ := hI
    refine M.TC_ite (fun t => ?_) (fun t => M.TC_ret (.inr ⟨_, rfl, .inl ⟨_, rfl, ?_⟩⟩))
    · have hk : k < s.length := by have := of_decide_eq_true t; omega
      obtain ⟨x, hx⟩ := get k hk
      obtain ⟨y, hy⟩ := get (k - 1) (by omega)
      have hdt := dd_take k1 hx hy
      have ew : w64 ((k : Int) - 1) = ((k - 1 : Nat) : Int) := by rw [w64_eq _ (by omega)]; omega
      rw [ew]
      refine M.TC_bindC (M.Conv_idx hx) (M.TC_bindC (M.Conv_idx hy) (M.TC_bindC (same2_ok x y) (M.TC_ite (fun t => ?_) (fun t => M.TC_ret (.inl ⟨_, rfl, ⟨k + 1, ?_, by omega, by omega, ?_⟩, ?_⟩)))))
      · have hsame : sameK x y := of_decide_eq_true t
        rw [if_pos hsame, List.append_nil] at hdt
        refine M.TC_bindC (M.Conv_sub (by omega) (by omega) (by omega)) ?_
        have em : ((s.length : Int)).toNat - ((k : Int)).toNat = s.length - k := by omega
        rw [em]
        refine M.TC_bind (Mid := fun (w : List TPlace × Int) => ∃ q : Nat, w.2 = q ∧ q ≤ s.length ∧ w.1.length = s.length ∧ w.1.take q = dd s) (M.TC_for (fun i (w : List TPlace × Int) => ∃ i' q : Nat, i = i' ∧ w.2 = q ∧ 1 ≤ i' ∧ i' ≤ s.length - k ∧ q + 1 ≤ k + i' ∧ w.1.length = s.length ∧ w.1.take q = dd (s.take (k + i')) ∧ ∀ j, k + i' ≤ j + 1 → w.1[j]? = s[j]?) _ (by omega) (by omega) ⟨1, k, rfl, rfl, by omega, by omega, by omega, rfl, by rw [hdt, hd], fun _ _ => rfl⟩ (fun i w h1 h2 hJ => ?_) (fun i w hi hJ => ?_)) fun w hw => ?_
        · obtain ⟨i', q, rfl, ew2, i1, i2, i3, i4, i5, i6⟩ := hJ
          obtain ⟨L, v⟩ := w
          (try simp only at ew2 i4 i5 i6 ⊢)
          subst ew2
          have hi : k + i' < s.length := by omega
          obtain ⟨a, ha⟩ := get (k + i') hi
          obtain ⟨b, hb⟩ := get (k + i' - 1) (by omega)
          have hLa : L[k + i']? = some a := by rw [i6 _ (by omega)]; exact ha
          have hLb : L[k + i' - 1]? = some b := by rw [i6 _ (by omega)]; exact hb
          have ra : M.Conv (M.idx (List.take (s.length - k) (List.drop ((k : Int)).toNat L)) (i' : Int)) a := M.Conv_idx (by
            rw [List.getElem?_take, if_pos (by omega), List.getElem?_drop, Int.toNat_natCast]; exact hLa)
          have rb : M.Conv (M.idx (List.take (s.length - k) (List.drop ((k : Int)).toNat L)) (w64 ((i' : Int) - 1))) b := by
            rw [show w64 ((i' : Int) - 1) = ((i' - 1 : Nat) : Int) by rw [w64_eq _ (by omega)]; omega]
            exact M.Conv_idx (by
              rw [List.getElem?_take, if_pos (by omega), List.getElem?_drop, Int.toNat_natCast, show k + (i' - 1) = k + i' - 1 by omega]; exact hLb)
          have hdt2 := dd_take (l := s) (k := k + i') (by omega) ha hb
          have hq : q < L.length := by omega
          refine M.TC_bindC ra (M.TC_bindC rb (M.TC_bindC (same2_ok a b) ?_))
          refine M.TC_bind (Mid := fun (w : List TPlace × Int) => ∃ q : Nat, w.2 = q ∧ q + 1 ≤ k + (i' + 1) ∧ w.1.length = s.length ∧ w.1.take q = dd (s.take (k + (i' + 1))) ∧ ∀ j, k + (i' + 1) ≤ j + 1 → w.1[j]? = s[j]?) (M.TC_ite (fun t => ?_) (fun t => M.TC_ret ⟨q, rfl, by omega, i4, ?_, fun j hj => i6 j (by omega)⟩)) fun w hw => M.TC_ret (.inl ⟨_, rfl, ?_⟩)
          · have hns : ¬ sameK a b := by simpa using t
            rw [if_neg hns] at hdt2
            refine M.TC_bindC ra (M.TC_bindC (M.Conv_idx (List.getElem?_eq_getElem hq)) (M.TC_bindC (M.Conv_upd hq) (M.TC_ret ⟨q + 1, ?_, by omega, ?_, ?_, fun j hj => ?_⟩)))
            · (try simp only); rw [w64_eq _ (by omega)]; omega
            · (try simp only); rw [List.length_set]; exact i4
            · have : (L.set q a)[q]? = some a := by rw [List.getElem?_set_self hq]
              (try simp only)
              rw [take_snocP this, List.take_set_of_le (Nat.le_refl _), i5, show k + (i' + 1) = k + i' + 1 by omega, hdt2]
            · (try simp only)
              rw [List.getElem?_set_ne (by omega)]
              exact i6 j (by omega)
          · have hs2 : sameK a b := by simpa using t
            rw [if_pos hs2, List.append_nil] at hdt2
            (try simp only)
            rw [i5, show k + (i' + 1) = k + i' + 1 by omega, hdt2]
          · obtain ⟨q', j1, j2, j3, j4, j5⟩ := hw
            exact ⟨i' + 1, q', by omega, j1, by omega, by omega, j2, j3, j4, j5⟩
        · obtain ⟨i', q, rfl, e2, i1, i2, i3, i4, i5, i6⟩ := hJ
          have : k + i' = s.length := by omega
          rw [this, List.take_length] at i5
          exact ⟨q, e2, by omega, i4, i5⟩
        · obtain ⟨q, e, hq, hl, ht⟩ := hw
          obtain ⟨L, v⟩ := w
          (try simp only at e hl ht ⊢)
          subst e
          refine M.TC_bindC (M.Conv_sub (by omega) (by omega) (by omega)) (M.TC_bindC (M.Conv_sub (by omega) (by omega) ?_) (M.TC_ret (.inr ⟨_, rfl, .inr ⟨_, rfl, ?_⟩⟩)))
          · simp; omega
          · rw [← ht]
            simp only [Int.toNat_natCast, Int.toNat_zero, Nat.sub_zero, List.drop_zero]
            rw [List.take_append_of_le_length (by simp; omega), List.take_take, Nat.min_self]
      · rw [w64_eq _ (by omega)]; omega
      · have hns : ¬ sameK x y := of_decide_eq_false t
        rw [if_neg hns] at hdt
        rw [hdt, hd, take_snocP hx]
      · rw [w64_eq _ (by omega)]; omega
    · have : k = s.length := by have := of_decide_eq_false t; omega
      rw [this, List.take_length] at hd
      exact hd
  · rcases hy with ⟨v, rfl, h⟩ | ⟨r, rfl, h⟩
    · exact M.TC_ret h.symm
    · exact M.TC_ret h
theorem placeCmp_le (p q : TPlace) : (!(decide (placeCmp q p < 0))) = true ↔ leP p q := by
  have v : ∀ x y : Int, (cmpI x y = -1 ∧ x < y) ∨ (cmpI x y = 0 ∧ x = y) ∨ (cmpI x y = 1 ∧ y < x) := fun x y => by
    unfold cmpI
    by_cases h1 : x < y
    · simp [h1]
    · by_cases h2 : y < x
      · simp [h1, h2]
      · simp [h1, h2]; omega
  have a := v q.From p.From
  have b := v q.To p.To
  have c := v q.Tokens p.Tokens
  have d := v p.Delay q.Delay
  rw [Bool.not_eq_true', decide_eq_false_iff_not]
  unfold leP bef sameK placeCmp
  split
  · omega
  · split
    · omega
    · split <;> omega
theorem same_SimplifyGraph (g : TGraph) (_ : okTGraph g) (s : smG g) : Two (spec_SimplifyGraph g) (impl_SimplifyGraph g) (fun w => smG w.1) := by
  have hs := s
  simp only [smG, smP] at hs
  cases hg : graphB g with
  | false =>
    refine Two.mk (r := (⟨0, []⟩, 1)) ?_ ?_ sm0G
    · exact M.Conv_bind (spec_IsEventGraph_ok (by omega)) (M.Conv_ite (fun _ => M.Conv_ret _) (fun t => by rw [hg] at t; cases t))
    · exact M.Conv_bind (impl_IsEventGraph_ok (by omega)) (M.Conv_ite (fun _ => M.Conv_ret _) (fun t => by rw [hg] at t; cases t))
  | true =>
    obtain ⟨L, h1, h2, h3⟩ := spec_simp s hg
    have hsort : M.Conv (slices_SortFunc_Place_F_impl_simplified_1 g.Places) (g.Places.mergeSort fun x y => !(decide (placeCmp y x < 0))) := M.Conv_bind (M.Conv_guard (decide_eq_true (by omega))) (M.Conv_ret _)
    have hord : (g.Places.mergeSort fun x y => !(decide (placeCmp y x < 0))).Pairwise leP := by
      have := List.pairwise_mergeSort (le := fun x y : TPlace => !(decide (placeCmp y x < 0))) (fun a b c h1 h2 => by
        rw [placeCmp_le] at *
        unfold leP bef sameK at *; omega) (fun a b => by
        rw [Bool.or_eq_true, placeCmp_le, placeCmp_le]
        unfold leP bef sameK; omega) g.Places
      exact this.imp fun {a b} h => (placeCmp_le a b).1 h
    obtain ⟨r, r1, rfl⟩ := compact_tc (s := g.Places.mergeSort fun x y => !(decide (placeCmp y x < 0))) (by rw [List.length_mergeSort]; omega)
    have e := (dd_ok hord).ext (S' := fun p => p ∈ g.Places) (fun p => List.mem_mergeSort)
    rw [e.unique h2] at r1
    refine Two.mk (r := (⟨g.Events, L⟩, 0)) h1 ?_ h3
    exact M.Conv_bind (impl_IsEventGraph_ok (by omega)) (M.Conv_ite (fun t => by rw [hg] at t; cases t) (fun _ => M.Conv_bind (M.Conv_bind (impl_cloneGraph_ok s) (M.Conv_bind hsort (M.Conv_bind r1 (M.Conv_ret _)))) (M.Conv_ret _)))

theorem FnExactSimplifyGraph_ok (aG : TGraph) (gaG : okTGraph aG) : M.Conv (laws_FnExactSimplifyGraph aG) true := by
  unfold laws_FnExactSimplifyGraph
  obtain ⟨zaG, hzaG, ssaG⟩ := szG_ok gaG
  refine M.Conv_bind hzaG ?_
  refine M.Conv_ite (fun _ => M.Conv_ret _) (fun qaG => ?_)
  have saG := ssaG qaG
  have nzaG := of_decide_eq_false qaG
  refine M.Conv_bind (toG_ok saG) ?_
  obtain ⟨w, hS, hI, hw⟩ := same_SimplifyGraph aG gaG saG
  refine M.Conv_bind hS ?_
  refine M.Conv_bind (toG_ok saG) ?_
  refine M.Conv_bind hI ?_
  refine M.Conv_bind (eqG_refl hw) ?_
  refine M.Conv_ite (fun q => ?_) (fun _ => ?_)
  · exfalso; revert q; simp
  refine M.Conv_bind (toG_ok saG) ?_
  refine M.Conv_bind (eqG_refl saG) ?_
  refine M.Conv_ite (fun q => ?_) (fun _ => ?_)
  · exfalso; revert q; simp
  obtain ⟨k1, mk1, hmk1, lek1, gek1, _, hek1⟩ := markG_ok saG _ (show (0 : Int) ≤ 1 by omega) (by omega)
  refine M.Conv_bind hmk1 ?_
  refine M.Conv_bind (x := false) (M.Conv_ite (fun q => ?_) (fun _ => M.Conv_bind (eqG_refl hw) (M.Conv_ret _))) ?_
  · exfalso; revert q; simp; omega
  refine M.Conv_ite (fun q => ?_) (fun _ => ?_)
  · exfalso; revert q; simp
  obtain ⟨k2, mk2, hmk2, lek2, gek2, _, hek2⟩ := markG_ok hw _ (show (0 : Int) ≤ 1 by omega) (by omega)
  refine M.Conv_bind hmk2 ?_
  refine M.Conv_bind (heldG_of (show (0 : Int) ≤ 1 by omega) lek2 hek2) ?_
  refine M.Conv_ite (fun q => ?_) (fun _ => ?_)
  · exfalso; revert q; simp; try omega
  refine M.Conv_ite (fun q => ?_) (fun _ => ?_)
  · exfalso; revert q; simp; try omega
  refine M.Conv_bind (toG_ok saG) ?_
  refine M.Conv_bind hI ?_
  refine M.Conv_bind (eqG_refl hw) ?_
  refine M.Conv_ite (fun q => ?_) (fun _ => ?_)
  · exfalso; revert q; simp; try omega
  refine M.Conv_bind (heldG_of (show (0 : Int) ≤ 1 by omega) lek2 hek2) ?_
  refine M.Conv_ite (fun q => ?_) (fun _ => ?_)
  · exfalso; revert q; simp; try omega
  refine M.Conv_ite (fun q => ?_) (fun _ => ?_)
  · exfalso; revert q; simp; try omega
  exact M.Conv_ret _

end Go.Proofs.Ytelopfgolahlpaa
