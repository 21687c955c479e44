/-
  Plain proofs: the plain program of the law ends with true.
  Conditions: None beyond the given statement.
-/
import Derived.Test.YtfhphkiggdepaaaDoorP
namespace Go.Proofs.YtfhphkiggdepaaaDoor
open Go
/-! ### plain programs: loops over a list -/
namespace M
variable {α β σ ρ : Type}
/-- rounds over the elements of a list, each with its place; a round may leave -/
def run (g : Nat → α → σ → σ ⊕ ρ) (fin : σ → ρ) : Nat → List α → σ → ρ
  | _, [], s => fin s
  | i, x :: xs, s => match g i x s with
    | .inl s' => run g fin (i + 1) xs s'
    | .inr r => r
theorem Conv_forN {l : List α} {f : Int → σ → M (σ ⊕ ρ)} (g : Nat → α → σ → σ ⊕ ρ) (fin : σ → ρ) (I : Nat → σ → Prop) (hi : Int) :
    ∀ (xs : List α) (i : Nat) (s : σ), hi = (i + xs.length : Nat) → I i s → (∀ (j : Nat) x s, xs[j]? = some x → I (i + j) s → Conv (f (i + j : Nat) s) (g (i + j) x s) ∧ ∀ s', g (i + j) x s = .inl s' → I (i + j + 1) s') →
      ∃ N, ∀ n, N ≤ n → forN hi fin f n xs.length i s = some (run g fin i xs s)
  | [], i, s, hh, _, _ => ⟨0, fun n _ => by
      have : ¬ (i : Int) < hi := by rw [hh]; simp
      simp [forN, run, this]⟩
  | x :: xs, i, s, hh, h0, H => by
    have hlt : (i : Int) < hi := by rw [hh]; simp; omega
    obtain ⟨⟨N, hN⟩, hI⟩ := H 0 x s rfl h0
    simp only [Nat.add_zero] at hN hI
    cases hg : g i x s with
    | inl s' =>
      have hi' := hI s' hg
      obtain ⟨N', hN'⟩ := Conv_forN (l := l) g fin I hi xs (i + 1) s' (by rw [hh, List.length_cons]; congr 1; omega) hi' (fun j y s hy hIs => by
        have := H (j + 1) y s (by simpa using hy) (by rw [← Nat.add_assoc, Nat.add_right_comm]; exact hIs)
        rw [show i + (j + 1) = i + 1 + j by omega] at this
        exact this)
      refine ⟨max N N', fun n hn => ?_⟩
      have h1 := hN n (by omega)
      rw [hg] at h1
      simp only [List.length_cons, forN, hlt, decide_true, cond_true, h1, run, hg]
      have := hN' n (by omega)
      simpa using this
    | inr r =>
      refine ⟨N, fun n hn => ?_⟩
      have h1 := hN n hn
      rw [hg] at h1
      simp only [List.length_cons, forN, hlt, decide_true, cond_true, h1, run, hg]
/-- a loop over a list, with an invariant -/
theorem Conv_forI {l : List α} {f : Int → σ → M (σ ⊕ ρ)} {fin : σ → ρ} {s : σ} (g : Nat → α → σ → σ ⊕ ρ) (I : Nat → σ → Prop) (hl : l.length ≤ 9223372036854775807) (h0 : I 0 s)
    (H : ∀ (i : Nat) x s, l[i]? = some x → I i s → Conv (f i s) (g i x s) ∧ ∀ s', g i x s = .inl s' → I (i + 1) s') : Conv (forI 0 (l.length : Int) fin f s) (run g fin 0 l s) := by
  obtain ⟨N, hN⟩ := Conv_forN (l := l) (f := f) g fin I (l.length : Int) l 0 s (by simp) h0 (fun j x s hx hI => by simpa using H j x s hx (by simpa using hI))
  refine ⟨N, fun n hn => ?_⟩
  have h1 : (l.length : Int) ≤ 9223372036854775807 := by omega
  simp only [forI, h1, decide_true, Bool.and_true, show (-9223372036854775808 : Int) ≤ 0 by decide, cond_true]
  have := hN n hn
  simpa using this
/-- .. without one -/
theorem Conv_forL {l : List α} {f : Int → σ → M (σ ⊕ ρ)} {fin : σ → ρ} {s : σ} (g : Nat → α → σ → σ ⊕ ρ) (hl : l.length ≤ 9223372036854775807)
    (H : ∀ (i : Nat) x s, l[i]? = some x → Conv (f i s) (g i x s)) : Conv (forI 0 (l.length : Int) fin f s) (run g fin 0 l s) :=
  Conv_forI g (fun _ _ => True) hl trivial fun i x s hx _ => ⟨H i x s hx, fun _ _ => trivial⟩
theorem Conv.of {m : M α} {r r' : α} (h : Conv m r) (e : r = r') : Conv m r' := e ▸ h
theorem Conv_ite {b : Bool} {x y : M α} {r : α} (h1 : b = true → Conv x r) (h2 : b = false → Conv y r) : Conv (ite b x y) r := by
  cases b
  · exact h2 rfl
  · exact h1 rfl
theorem Conv_ite2 {b : Bool} {x y : M α} {r s : α} (h1 : b = true → Conv x r) (h2 : b = false → Conv y s) : Conv (ite b x y) (bif b then r else s) := by
  cases b
  · exact h2 rfl
  · exact h1 rfl
theorem Conv_guard {b : Bool} (h : b = true) : Conv (guard b) () := ⟨0, fun _ _ => by simp [guard, h]⟩
theorem Conv_upd {l : List α} {i : Nat} {x : α} (h : i < l.length) : Conv (upd l i x) (l.set i x) := ⟨0, fun _ _ => by simp [upd, h]⟩
theorem Conv_get {l : List α} {i : Int} {x : α} (h0 : 0 ≤ i) (h : l[i.toNat]? = some x) : Conv (idx l i) x := ⟨0, fun _ _ => by simp [idx, h0, h]⟩
/-- a value told in both ways of a test, then the rest -/
theorem Conv_bite {b : Bool} {x y : M α} {f : α → M β} {u v : α} {r : β} (h1 : b = true → Conv x u) (h2 : b = false → Conv y v) (g : Conv (f (bif b then u else v)) r) : Conv (bind (ite b x y) f) r :=
  Conv_bind (Conv_ite2 h1 h2) g

/-! searches: a loop that leaves at the first element of a kind -/
theorem run_all (p : α → Bool) (u : Unit ⊕ ρ) : ∀ (i : Nat) (l : List α), run (ρ := Unit ⊕ ρ) (fun _ x _ => bif p x then .inl () else .inr u) (fun s => .inl s) i l () = bif l.all p then .inl () else u
  | _, [] => rfl
  | i, x :: xs => by
    simp only [run, List.all_cons]
    cases p x
    · rfl
    · simpa using run_all p u (i + 1) xs
/-- 'for .. if not p x, return v' -/
theorem Conv_all {l : List α} {f : Int → Unit → M (Unit ⊕ (Unit ⊕ ρ))} (p : α → Bool) (v : ρ) (hl : l.length ≤ 9223372036854775807) (H : ∀ (i : Nat) x, l[i]? = some x → Conv (f i ()) (bif p x then .inl () else .inr (.inr v))) :
    Conv (forI 0 (l.length : Int) (fun s => .inl s) f ()) (bif l.all p then .inl () else .inr v) :=
  (Conv_forL (fun _ x _ => bif p x then .inl () else .inr (.inr v)) hl fun i x _ hx => H i x hx).of (run_all p (.inr v) 0 l)
/-- the same, where the element's place matters to the test -/
theorem run_allI (p : Nat → α → Bool) (u : Unit ⊕ ρ) : ∀ (i : Nat) (l : List α), run (ρ := Unit ⊕ ρ) (fun j x _ => bif p j x then .inl () else .inr u) (fun s => .inl s) i l () = bif (l.zipIdx i).all (fun q => p q.2 q.1) then .inl () else u
  | _, [] => rfl
  | i, x :: xs => by
    simp only [run, List.zipIdx_cons, List.all_cons]
    cases p i x
    · rfl
    · simpa using run_allI p u (i + 1) xs
theorem Conv_allI {l : List α} {f : Int → Unit → M (Unit ⊕ (Unit ⊕ ρ))} (p : Nat → α → Bool) (v : ρ) (hl : l.length ≤ 9223372036854775807) (H : ∀ (i : Nat) x, l[i]? = some x → Conv (f i ()) (bif p i x then .inl () else .inr (.inr v))) :
    Conv (forI 0 (l.length : Int) (fun s => .inl s) f ()) (bif (l.zipIdx 0).all (fun q => p q.2 q.1) then .inl () else .inr v) :=
  (Conv_forL (fun j x _ => bif p j x then .inl () else .inr (.inr v)) hl fun i x _ hx => H i x hx).of (run_allI p (.inr v) 0 l)
/-- 'for i .. if p x, return i' -/
theorem run_find (p : α → Bool) : ∀ (i : Nat) (l : List α), run (σ := Unit) (ρ := Unit ⊕ Int) (fun j x _ => bif p x then .inr (.inr (j : Int)) else .inl ()) (fun s => .inl s) i l () = match l.findIdx? p with
    | some j => .inr ((i + j : Nat) : Int)
    | none => .inl ()
  | _, [] => rfl
  | i, x :: xs => by
    simp only [run, List.findIdx?_cons]
    cases hp : p x
    · simp only [cond_false, run_find p (i + 1) xs, Bool.false_eq_true, if_false]
      cases xs.findIdx? p with
      | none => rfl
      | some j => simp only [Option.map_some]; congr 2; omega
    · simp
theorem Conv_find {l : List α} {f : Int → Unit → M (Unit ⊕ (Unit ⊕ Int))} (p : α → Bool) (hl : l.length ≤ 9223372036854775807) (H : ∀ (i : Nat) x, l[i]? = some x → Conv (f i ()) (bif p x then .inr (.inr (i : Int)) else .inl ())) :
    Conv (forI 0 (l.length : Int) (fun s => .inl s) f ()) (match l.findIdx? p with | some j => .inr (j : Int) | none => .inl ()) :=
  (Conv_forL (fun j x _ => bif p x then .inr (.inr (j : Int)) else .inl ()) hl fun i x _ hx => H i x hx).of (by rw [run_find]; simp)
/-- sums: each round turns what has been gathered -/
theorem run_fold (g : σ → α → σ) : ∀ (i : Nat) (l : List α) (s : σ), run (fun _ x s => .inl (g s x)) (fun s => s) i l s = l.foldl g s
  | _, [], _ => rfl
  | i, x :: xs, s => by simpa [run] using run_fold g (i + 1) xs (g s x)
theorem Conv_fold {l : List α} {f : Int → σ → M (σ ⊕ σ)} {s : σ} (g : σ → α → σ) (hl : l.length ≤ 9223372036854775807) (H : ∀ (i : Nat) x s, l[i]? = some x → Conv (f i s) (.inl (g s x))) :
    Conv (forI 0 (l.length : Int) (fun s => s) f s) (l.foldl g s) :=
  (Conv_forL (fun _ x s => .inl (g s x)) hl fun i x s hx => H i x s hx).of (run_fold g 0 l s)
theorem get_set_append {l r : List α} {x y : α} : (l ++ y :: r).set l.length x = l ++ x :: r := by simp
/-- a loop that fills a list of the same length, element by element -/
theorem run_fill (g : Nat → α → β) (z : β) : ∀ (i : Nat) (l : List α) (d : List β), d.length = i →
    run (fun j x s => .inl (s.set j (g j x))) (fun s => s) i l (d ++ List.replicate l.length z) = d ++ (l.zipIdx i).map (fun q => g q.2 q.1)
  | _, [], d, _ => by simp [run]
  | i, x :: xs, d, hd => by
    subst hd
    simp only [run, List.length_cons, List.replicate_succ, get_set_append]
    have := run_fill g z (d.length + 1) xs (d ++ [g d.length x]) (by simp)
    simp only [List.append_assoc, List.singleton_append] at this
    rw [this]
    simp
theorem Conv_fill {l : List α} {f : Int → List β → M (List β ⊕ List β)} (g : Nat → α → β) (z : β) (hl : l.length ≤ 9223372036854775807)
    (H : ∀ (i : Nat) x s, l[i]? = some x → s.length = l.length → Conv (f i s) (.inl (s.set i (g i x)))) :
    Conv (forI 0 (l.length : Int) (fun s => s) f (List.replicate l.length z)) ((l.zipIdx 0).map (fun q => g q.2 q.1)) := by
  refine (Conv_forI (fun j x s => .inl (s.set j (g j x))) (fun _ s => s.length = l.length) hl (by simp) fun i x s hx hI => ⟨H i x s hx hI, fun s' e => ?_⟩).of ?_
  · cases e; simpa using hI
  · simpa using run_fill g z 0 l [] rfl
theorem zipIdx_map_fst {l : List α} {g : α → β} {i : Nat} : ((l.zipIdx i).map fun q => g q.1) = l.map g := by
  have h : List.map (g ∘ Prod.fst) (l.zipIdx i) = List.map g l := by rw [← List.map_map, List.zipIdx_map_fst]
  exact h
theorem findIdx_any {l : List α} {p : α → Bool} : (decide ((0:Int) ≤ match l.findIdx? p with | some j => (j : Int) | none => -1)) = l.any p := by
  cases h : l.findIdx? p with
  | none => rw [List.findIdx?_eq_none_iff] at h; simp; exact fun x hx => by simpa using h x hx
  | some j =>
    obtain ⟨hj, hp, _⟩ := List.findIdx?_eq_some_iff_getElem.1 h
    simp
    exact ⟨_, List.getElem_mem hj, hp⟩
end M

theorem spec_l01In_ok (x lo hi : Int) : M.Conv (spec_l01In x lo hi) (decide (lo ≤ x) && decide (x ≤ hi)) := M.Conv_ret _
theorem impl_within_ok (x lo hi : Int) : M.Conv (impl_within x lo hi) (decide (lo ≤ x) && decide (x ≤ hi)) := M.Conv_ret _
/-- 'slices.ContainsFunc', behind 'slices.IndexFunc' -/
theorem contains_ok {α : Type} {l : List α} {f : Int → Unit → M (Unit ⊕ (Unit ⊕ Int))} (p : α → Bool) (hl : l.length ≤ 9223372036854775807) (H : ∀ (i : Nat) x, l[i]? = some x → M.Conv (f i ()) (bif p x then .inr (.inr (i : Int)) else .inl ())) :
    M.Conv (M.bind (M.bind (M.forI 0 (l.length : Int) (fun s => .inl s) f ()) (fun x1 => M.cont x1 (fun _ => M.ret (-1)) (fun r => M.ret r))) (fun x1 => M.ret (decide (0 ≤ x1)))) (l.any p) := by
  rw [← M.findIdx_any]
  refine M.Conv_bind (M.Conv_bind (M.Conv_find p hl H) ?_) (M.Conv_ret _)
  cases l.findIdx? p <;> exact M.Conv_ret _
theorem any_not {α : Type} {l : List α} {p : α → Bool} : (!l.any fun x => !p x) = l.all p := by
  induction l with
  | nil => rfl
  | cons x xs ih => simp only [List.any_cons, List.all_cons, Bool.not_or, Bool.not_not, ih]
/-- marks: element i becomes e (k + w * i) -/
theorem Conv_mark {α : Type} {l : List α} {f : Int → List α × Int → M ((List α × Int) ⊕ (List α × Int))} (w : Int) (e : Int → α) (k : Int) (hl : l.length ≤ 9223372036854775807)
    (H : ∀ (i : Nat) (s : List α), i < l.length → s.length = l.length → M.Conv (f i (s, k + w * i)) (.inl (s.set i (e (k + w * i)), k + w * (i + 1)))) :
    M.Conv (M.forI 0 (l.length : Int) (fun s => s) f (l, k)) ((List.range l.length).map (fun (i : Nat) => e (k + w * i)), k + w * l.length) := by
  refine (M.Conv_forI (l := l) (fun i _ s => .inl (s.1.set i (e (k + w * i)), k + w * (i + 1))) (fun i s => s.1.length = l.length ∧ s.2 = k + w * i) hl ⟨rfl, by simp⟩ fun i x s hx hI => ?_).of ?_
  · obtain ⟨s, q⟩ := s
    obtain ⟨h1, h2⟩ := hI
    simp only at h1 h2
    subst h2
    refine ⟨H i s (List.getElem?_eq_some_iff.1 hx).1 h1, fun s' es => ?_⟩
    cases es
    exact ⟨by simpa using h1, by simp⟩
  · have key : ∀ (xs : List α) (i : Nat) (d : List α), d.length = i → M.run (ρ := List α × Int) (fun i _ s => .inl (s.1.set i (e (k + w * i)), k + w * ((i : Int) + 1))) (fun s => s) i xs (d ++ xs, k + w * i) = (d ++ (List.range xs.length).map (fun (j : Nat) => e (k + w * (i + j : Nat))), k + w * (i + xs.length : Nat)) := by
      intro xs
      induction xs with
      | nil => intro i d hd; simp [M.run]
      | cons x xs ih =>
        intro i d hd
        subst hd
        simp only [M.run]
        have := ih (d.length + 1) (d ++ [e (k + w * d.length)]) (by simp)
        rw [show (d ++ x :: xs).set d.length (e (k + w * d.length)) = d ++ [e (k + w * d.length)] ++ xs by simp]
        rw [show ((d.length : Int) + 1) = ((d.length + 1 : Nat) : Int) by omega, this]
        simp only [List.length_cons, List.range_succ_eq_map, List.map_cons, List.map_map, List.append_assoc, List.singleton_append, Prod.mk.injEq, List.append_cancel_left_eq, List.cons.injEq]
        refine ⟨⟨by simp, List.map_congr_left fun j _ => ?_⟩, by congr 2; omega⟩
        simp only [Function.comp]
        congr 3; omega
    have := key l 0 [] rfl
    simpa using this
theorem Conv_held {α : Type} {l : List α} {f : Int → Int → M (Int ⊕ (Int ⊕ Int))} (w k : Int) (hl : l.length ≤ 9223372036854775807) (H : ∀ (i : Nat) x, l[i]? = some x → M.Conv (f i (k + w * i)) (.inl (k + w * (i + 1)))) :
    M.Conv (M.forI 0 (l.length : Int) (fun s => .inl s) f k) (.inl (k + w * l.length)) := by
  refine (M.Conv_forI (l := l) (fun i _ _ => .inl (k + w * (i + 1))) (fun i s => s = k + w * i) hl (by simp) fun i x s hx hI => ?_).of ?_
  · subst hI
    exact ⟨H i x hx, fun s' es => by cases es; simp⟩
  · have key : ∀ (xs : List α) (i : Nat), M.run (σ := Int) (ρ := Int ⊕ Int) (fun i _ _ => .inl (k + w * ((i : Int) + 1))) (fun s => .inl s) i xs (k + w * i) = .inl (k + w * (i + xs.length : Nat)) := by
      intro xs
      induction xs with
      | nil => intro i; simp [M.run]
      | cons x xs ih =>
        intro i
        simp only [M.run, List.length_cons]
        rw [show ((i : Int) + 1) = ((i + 1 : Nat) : Int) by omega, ih (i + 1)]
        congr 3; omega
    have := key l 0
    simpa using this
def smP (l : List TPlace) : Prop := l.length ≤ 1099511627
def smG (g : TGraph) : Prop := smP g.Places
theorem toPlace_ok {p : TPlace} : M.Conv (laws_toPlace p) p := M.Conv_ret _
theorem toPlaceS_ok {a : List TPlace} (h : smP a) : M.Conv (laws_toPlaceS a) a := by
  unfold smP at h
  unfold laws_toPlaceS
  refine M.Conv_bind (M.Conv_make (by omega) (by omega)) ?_
  refine M.Conv_bind (x := a) (((M.Conv_fill (l := a) (f := _) (fun _ x => x) _ (by omega) fun i x s hx hs => ?_)).of ?_) (M.Conv_ret _)
  · have hi := (List.getElem?_eq_some_iff.1 hx).1
    refine M.Conv_bind (M.Conv_get (by omega) (by simpa using hx)) (M.Conv_bind toPlace_ok ?_)
    refine M.Conv_bind (M.Conv_get (x := s[i]) (by omega) (by simp [show i < s.length by omega])) ?_
    exact M.Conv_bind (M.Conv_upd (by omega)) (M.Conv_ret _)
  · exact M.zipIdx_map_fst.trans (List.map_id' _)
theorem eqPlace_refl {p : TPlace} : M.Conv (laws_eqPlace p p) true := by
  unfold laws_eqPlace
  refine M.Conv_ite (fun q => by simp at q) (fun _ => M.Conv_ite (fun q => by simp at q) (fun _ => M.Conv_ite (fun q => by simp at q) (fun _ => M.Conv_ite (fun q => by simp at q) (fun _ => M.Conv_ret _))))
theorem eqPlaceS_refl {a : List TPlace} (h : smP a) : M.Conv (laws_eqPlaceS a a) true := by
  unfold smP at h
  unfold laws_eqPlaceS
  refine M.Conv_ite (fun q => by simp at q) (fun _ => M.Conv_bind (M.Conv_all (fun _ => true) false (by omega) fun i x hx => ?_) ?_)
  case refine_2 => rw [show (a.all fun _ => true) = true by simp]; exact M.Conv_ret _
  have hg : M.Conv (M.idx a i) x := M.Conv_get (by omega) (by simpa using hx)
  exact M.Conv_bind hg (M.Conv_bind hg (M.Conv_bind eqPlace_refl (M.Conv_ite (fun q => by simp at q) (fun _ => M.Conv_ret _))))
theorem eqG_refl {g : TGraph} (h : smG g) : M.Conv (laws_eqEventGraph g g) true := by
  unfold laws_eqEventGraph
  refine M.Conv_ite (fun q => by simp at q) (fun _ => M.Conv_bind (eqPlaceS_refl h) (M.Conv_ite (fun q => by simp at q) (fun _ => M.Conv_ret _)))
theorem Conv_and {b v : Bool} {m : M Bool} (h : b = true → M.Conv m v) : M.Conv (M.ite b (M.bind m (fun x => M.ret x)) (M.ret false)) (b && v) := by
  refine M.Conv_ite (fun q => ?_) (fun q => ?_)
  · rw [q]; exact M.Conv_bind (h q) (M.Conv_ret _)
  · rw [q]; exact M.Conv_ret _
def inB (x lo hi : Int) : Bool := decide (lo ≤ x) && decide (x ≤ hi)
def placeB (e : Int) (p : TPlace) : Bool := ((inB p.From 0 (w64 (e - 1)) && inB p.To 0 (w64 (e - 1))) && inB p.Delay 0 1000) && inB p.Tokens 0 5
theorem spec_l11Place_ok (p : TPlace) (e : Int) : M.Conv (spec_l11Place p e) (placeB e p) :=
  M.Conv_bind (spec_l01In_ok _ _ _) (M.Conv_bind (Conv_and fun _ => spec_l01In_ok _ _ _) (M.Conv_bind (Conv_and fun _ => spec_l01In_ok _ _ _) (M.Conv_bind (Conv_and fun _ => spec_l01In_ok _ _ _) (M.Conv_ret _))))
theorem impl_isEvent_ok (g : TGraph) (e : Int) : M.Conv (impl_isEvent g e) (inB e 0 (w64 (g.Events - 1))) := M.Conv_bind (impl_within_ok _ _ _) (M.Conv_ret _)
theorem impl_isPlace_ok (g : TGraph) (p : TPlace) : M.Conv (impl_isPlace g p) (placeB g.Events p) :=
  M.Conv_bind (impl_isEvent_ok _ _) (M.Conv_bind (Conv_and fun _ => impl_isEvent_ok _ _) (M.Conv_bind (Conv_and fun _ => impl_within_ok _ _ _) (M.Conv_bind (Conv_and fun _ => impl_within_ok _ _ _) (M.Conv_ret _))))
def graphB (g : TGraph) : Bool := (inB g.Events 1 10 && decide (g.Places.length ≤ 30)) && g.Places.all (placeB g.Events)
/-- 'for i < len(l)', the counter a variable; a round may leave -/
def runO {α ρ : Type} (g : Nat → α → Option ρ) (e : ρ) : Nat → List α → ρ
  | _, [] => e
  | i, x :: xs => match g i x with | none => runO g e (i + 1) xs | some r => r
theorem Conv_while {α ρ : Type} {l : List α} {f : Int → M (Int ⊕ ρ)} (g : Nat → α → Option ρ) (e : ρ) (step : ∀ (i : Nat) x, l[i]? = some x → M.Conv (f i) (match g i x with | none => .inl ((i : Int) + 1) | some r => .inr r)) (stop : M.Conv (f (l.length : Int)) (.inr e)) :
    M.Conv (M.loop f 0) (runO g e 0 l) := by
  have key : ∀ (xs : List α) (i : Nat), (∀ (j : Nat) x, xs[j]? = some x → M.Conv (f (i + j : Nat)) (match g (i + j) x with | none => .inl (((i + j : Nat) : Int) + 1) | some r => .inr r)) → M.Conv (f (i + xs.length : Nat)) (.inr e) →
      ∃ N m0, ∀ n, N ≤ n → ∀ m, m0 ≤ m → M.loopN f n m (i : Int) = some (runO g e i xs) := by
    intro xs
    induction xs with
    | nil =>
      intro i _ ⟨N, h⟩
      refine ⟨N, 1, fun n hn m hm => ?_⟩
      obtain ⟨m, rfl⟩ : ∃ q, m = q + 1 := ⟨m - 1, by omega⟩
      have := h n hn
      simp only [List.length_nil, Nat.add_zero] at this
      simp [M.loopN, this, runO]
    | cons x xs ih =>
      intro i hs hst
      obtain ⟨N, h⟩ := hs 0 x rfl
      simp only [Nat.add_zero] at h
      cases hg : g i x with
      | none =>
        obtain ⟨N', m0, h'⟩ := ih (i + 1) (fun j y hy => by have := hs (j + 1) y (by simpa using hy); rw [show i + (j + 1) = i + 1 + j by omega] at this; exact this) (by rw [show i + 1 + xs.length = i + (x :: xs).length by simp; omega]; exact hst)
        refine ⟨max N N', m0 + 1, fun n hn m hm => ?_⟩
        obtain ⟨m, rfl⟩ : ∃ q, m = q + 1 := ⟨m - 1, by omega⟩
        have h1 := h n (by omega)
        rw [hg] at h1
        simp only [M.loopN, h1, runO, hg]
        exact h' n (by omega) m (by omega)
      | some r =>
        refine ⟨N, 1, fun n hn m hm => ?_⟩
        obtain ⟨m, rfl⟩ : ∃ q, m = q + 1 := ⟨m - 1, by omega⟩
        have h1 := h n hn
        rw [hg] at h1
        simp only [M.loopN, h1, runO, hg]
  obtain ⟨N, m0, h⟩ := key l 0 (fun j x hx => by simpa using step j x hx) (by simpa using stop)
  exact ⟨max N m0, fun n hn => h n (by omega) n (by omega)⟩
theorem runO_all {α ρ : Type} (p : α → Bool) (r e : ρ) : ∀ (l : List α) (i : Nat), runO (fun _ x => bif p x then none else some r) e i l = bif l.all p then e else r
  | [], _ => rfl
  | x :: xs, i => by
    simp only [runO, List.all_cons]
    cases p x with
    | true => simpa using runO_all p r e xs (i + 1)
    | false => rfl
theorem spec_IsEventGraph_ok {g : TGraph} (hl : g.Places.length ≤ 9223372036854775806) : M.Conv (spec_IsEventGraph g) (graphB g) := by
  unfold spec_IsEventGraph
  refine M.Conv_bind ((Conv_while (l := g.Places) (fun _ p => bif placeB g.Events p then none else some (.inr false)) (.inl (g.Places.length : Int)) (fun i p hp => ?_) ?_).of (runO_all _ _ _ _ _)) ?_
  · have hi := (List.getElem?_eq_some_iff.1 hp).1
    refine M.Conv_ite (fun _ => M.Conv_bind (M.Conv_get (by omega) (by simpa using hp)) (M.Conv_bind (spec_l11Place_ok _ _) (M.Conv_ite (fun q => ?_) (fun q => ?_)))) (fun q => by have := of_decide_eq_false q; omega)
    · simp only [Bool.not_eq_true'] at q; rw [q]; exact M.Conv_ret _
    · simp only [Bool.not_eq_false'] at q; rw [q]; exact (M.Conv_ret _).of (by rw [w64_eq _ (by omega)]; rfl)
  · exact M.Conv_ite (fun q => by have := of_decide_eq_true q; omega) (fun _ => M.Conv_ret _)
  · cases hb : g.Places.all (placeB g.Events) with
    | false => exact (M.Conv_ret _).of (by simp [graphB, hb])
    | true =>
      show M.Conv (M.bind (spec_l01In g.Events 1 10) (fun x4 => M.ret (x4 && (decide ((g.Places.length : Int) ≤ 30))))) _
      refine M.Conv_bind (spec_l01In_ok _ _ _) ((M.Conv_ret _).of ?_)
      simp only [graphB, hb, inB, Bool.and_true]
      rw [decide_eq_decide.2 (show (g.Places.length : Int) ≤ 30 ↔ g.Places.length ≤ 30 by omega)]
theorem impl_IsEventGraph_ok {g : TGraph} (hl : g.Places.length ≤ 9223372036854775806) : M.Conv (impl_IsEventGraph g) (graphB g) := by
  unfold impl_IsEventGraph slices_ContainsFunc_Place_F_impl_IsEventGraph_1 slices_IndexFunc_Place_F_impl_IsEventGraph_1
  refine M.Conv_bind (impl_within_ok _ _ _) (M.Conv_bind (x := graphB g) ?_ (M.Conv_ret _))
  have e : ((decide (1 ≤ g.Events) && decide (g.Events ≤ 10)) && decide ((g.Places.length : Int) ≤ 30)) = (inB g.Events 1 10 && decide (g.Places.length ≤ 30)) := by
    rw [decide_eq_decide.2 (show (g.Places.length : Int) ≤ 30 ↔ g.Places.length ≤ 30 by omega)]; rfl
  rw [e]
  refine M.Conv_ite (fun q => ?_) (fun q => (M.Conv_ret _).of (by simp [graphB, q]))
  refine M.Conv_bind (contains_ok (fun p => !placeB g.Events p) (by omega) fun i p hp => ?_) ((M.Conv_ret _).of ?_)
  · refine M.Conv_bind (M.Conv_get (by omega) (by simpa using hp)) (M.Conv_bind (x := !placeB g.Events p) (M.Conv_bind (impl_isPlace_ok _ _) (M.Conv_ret _)) ?_)
    cases placeB g.Events p <;> exact M.Conv_ret _
  · rw [any_not]; simp [graphB, q]
theorem markPlaceS_ok {a : List TPlace} (h : smP a) (k : Int) (h0 : 0 ≤ k) (hk : k ≤ 2305843009213693952) :
    ∃ (k' : Int) (a' : List TPlace), M.Conv (laws_markPlaceS a k) (k', a') ∧ k ≤ k' ∧ k' ≤ k + 1099511627776 ∧ a'.length = a.length ∧ M.Conv (laws_heldPlaceS a' k) k' := by
  unfold smP at h
  let e : Int → TPlace := fun q => ⟨q, q + 1, q + 2, q + 3⟩
  refine ⟨k + 4 * a.length, (List.range a.length).map (fun (i : Nat) => e (k + 4 * (i : Int))), ?_, by omega, by omega, by simp, ?_⟩
  · unfold laws_markPlaceS
    refine M.Conv_bind (Conv_mark 4 e k (by omega) fun i s hi hs => ?_) (M.Conv_ret _)
    have his : i < s.length := by omega
    have w1 : w64 (k + 4 * (i : Int) + 1) = k + 4 * i + 1 := w64_eq _ (by omega)
    have w2 : w64 (k + 4 * (i : Int) + 1 + 1) = k + 4 * i + 2 := (w64_eq _ (by omega)).trans (by omega)
    have w3 : w64 (k + 4 * (i : Int) + 2 + 1) = k + 4 * i + 3 := (w64_eq _ (by omega)).trans (by omega)
    have w4 : w64 (k + 4 * (i : Int) + 3 + 1) = k + 4 * (i + 1) := (w64_eq _ (by omega)).trans (by omega)
    have g : ∀ y : TPlace, M.Conv (M.idx (s.set i y) (i : Int)) y := fun y => M.Conv_get (by omega) (by simp [his])
    simp only [w1, w2, w3, w4]
    refine M.Conv_bind (M.Conv_get (x := s[i]) (by omega) (by simp [his])) (M.Conv_bind (M.Conv_upd his) (M.Conv_bind (g _) (M.Conv_bind (M.Conv_upd (by simpa using his)) ?_)))
    rw [List.set_set]
    refine M.Conv_bind (g _) (M.Conv_bind (M.Conv_upd (by simpa using his)) ?_)
    rw [List.set_set]
    refine M.Conv_bind (g _) (M.Conv_bind (M.Conv_upd (by simpa using his)) ?_)
    rw [List.set_set]
    exact M.Conv_ret _
  · unfold laws_heldPlaceS
    have hl : ((List.range a.length).map fun i : Nat => e (k + 4 * (i : Int))).length = a.length := by simp
    refine M.Conv_bind (Conv_held 4 k (by rw [hl]; omega) fun i x hx => ?_) ((M.Conv_ret _).of (by rw [hl]))
    have hi := (List.getElem?_eq_some_iff.1 hx).1
    rw [hl] at hi
    have ex : x = e (k + 4 * i) := by simp [hi] at hx; exact hx.symm
    have w1 : w64 (k + 4 * (i : Int) + 1) = k + 4 * i + 1 := w64_eq _ (by omega)
    have w2 : w64 (k + 4 * (i : Int) + 1 + 1) = k + 4 * i + 2 := (w64_eq _ (by omega)).trans (by omega)
    have w3 : w64 (k + 4 * (i : Int) + 2 + 1) = k + 4 * i + 3 := (w64_eq _ (by omega)).trans (by omega)
    have w4 : w64 (k + 4 * (i : Int) + 3 + 1) = k + 4 * (i + 1) := (w64_eq _ (by omega)).trans (by omega)
    have g := M.Conv_get (l := (List.range a.length).map fun i : Nat => e (k + 4 * (i : Int))) (i := (i : Int)) (by omega) (by simpa using hx)
    subst ex
    simp only [w1, w2, w3, w4]
    exact M.Conv_bind g (M.Conv_ite (fun q => by simp [e] at q) (fun _ => M.Conv_bind g (M.Conv_ite (fun q => by simp [e] at q) (fun _ => M.Conv_bind g (M.Conv_ite (fun q => by simp [e] at q) (fun _ => M.Conv_bind g (M.Conv_ite (fun q => by simp [e] at q) (fun _ => M.Conv_ret _))))))))
theorem markG_ok {g : TGraph} (h : smG g) (k : Int) (h0 : 0 ≤ k) (hk : k ≤ 2305843009213693952) :
    ∃ (k' : Int) (a' : List TPlace), M.Conv (laws_markEventGraph g k) (k', a') ∧ k ≤ k' ∧ k' ≤ k + 1099511627776 ∧ a'.length = g.Places.length ∧ M.Conv (laws_heldPlaceS a' k) k' := by
  obtain ⟨k', a', h1, h2, h3, h4, h5⟩ := markPlaceS_ok h k h0 hk
  exact ⟨k', a', M.Conv_bind h1 (M.Conv_ret _), h2, h3, h4, h5⟩
theorem heldG_of {a' : List TPlace} {k k' e : Int} (h0 : 0 ≤ k) (hk : k ≤ k') (h : M.Conv (laws_heldPlaceS a' k) k') : M.Conv (laws_heldEventGraph ⟨e, a'⟩ k) k' :=
  M.Conv_bind h (M.Conv_ite (fun q => by have := of_decide_eq_true q; omega) (fun _ => M.Conv_ret _))
namespace M
end M

section
variable {a : List (List Int)} {l : List Nat} {W : Int} {r : TRatio} {S : List (List Int)}
end

def strB (l : List UInt8) : ByteArray := ⟨l.toArray⟩
theorem strB_app (a b : List UInt8) : strB a ++ strB b = strB (a ++ b) := by
  apply ByteArray.ext
  simp [strB]
theorem strB_size (l : List UInt8) : (strB l).size = l.length := rfl
theorem wrap8 {m : Int} (h : 0 ≤ m ∧ m ≤ 255) : IntKind.u8.wrap m = m := by
  simp [IntKind.wrap, IntKind.signed, IntKind.bits]; omega
theorem toS_one {m : Int} {u : Nat} (h : m = 48 + u) (hu : u < 10) : toS [(IntKind.u8.wrap (w64 m))] = strB [UInt8.ofNat (48 + u)] := by
  rw [w64_eq _ (by omega), wrap8 (by omega)]
  have : m.toNat = 48 + u := by omega
  simp only [toS, List.foldl_cons, List.foldl_nil, this]
  rfl
theorem digits_pos (u : Nat) : 1 ≤ (Lib.decDigits u).length := by
  rw [Lib.decDigits]
  split <;> simp
theorem cat_ok {a b : List UInt8} (h : a.length + b.length ≤ 1000000000) : M.Conv (M.cat (strB a) (strB b)) (strB (a ++ b)) := by
  rw [← strB_app]
  exact M.Conv_cat (by rw [strB_size, strB_size]; omega)
theorem tdiv10 (u : Nat) : (u : Int).tdiv 10 = ((u / 10 : Nat) : Int) := rfl
theorem tmod10 (u : Nat) : (u : Int).tmod 10 = ((u % 10 : Nat) : Int) := rfl
theorem cat_gen {a b : ByteArray} (n : Nat) (h : ((a.size + b.size : Nat) : Int) ≤ 9223372036854775807) : M.cat a b n = some (a ++ b) := by
  unfold M.cat
  rw [decide_eq_true h]; rfl
theorem cat_run {a b : List UInt8} (n : Nat) (h : a.length + b.length ≤ 1000000000) : M.cat (strB a) (strB b) n = some (strB (a ++ b)) := by
  have h2 : (((strB a).size + (strB b).size : Nat) : Int) ≤ 9223372036854775807 := by rw [strB_size, strB_size]; omega
  rw [cat_gen n h2, strB_app]
theorem digits_next {u : Nat} (h : ¬ u < 10) : Lib.decDigits u = Lib.decDigits (u / 10) ++ [UInt8.ofNat (48 + u % 10)] := by rw [Lib.decDigits, dif_neg h]
theorem dec_one (k n : Nat) {x : Int} (h : x < 10) : spec_l01Dec_R (k + 1) x n = some (toS [(IntKind.u8.wrap (w64 (48 + x)))]) := by
  simp only [spec_l01Dec_R, M.ite, M.ret]
  rw [decide_eq_true h, cond_true]
theorem bind_eq {α β : Type} {m : M α} {f : α → M β} {n : Nat} {x : α} (h : m n = some x) : M.bind m f n = f x n := by
  unfold M.bind
  rw [h]
theorem ite_eq {α : Type} {b : Bool} {x y : M α} {n : Nat} (h : b = false) : M.ite b x y n = y n := by subst h; rfl
theorem dec_more (k n : Nat) {x : Int} {b r : ByteArray} (h : ¬ x < 10) (h1 : spec_l01Dec_R k (w64 (x.tdiv 10)) n = some b) (h2 : M.cat b (toS [(IntKind.u8.wrap (w64 (48 + (x.tmod 10))))]) n = some r) : spec_l01Dec_R (k + 1) x n = some r := by
  rw [spec_l01Dec_R, ite_eq (decide_eq_false h), bind_eq h1, bind_eq h2]
  rfl
/-- the text of a place, and of the first places of a graph -/
def plT (p : TPlace) : List UInt8 := Lib.decDigits p.From.toNat ++ [62] ++ Lib.decDigits p.To.toNat ++ [58] ++ Lib.decDigits p.Delay.toNat ++ [42] ++ Lib.decDigits p.Tokens.toNat
structure PlG (e : Int) (p : TPlace) : Prop where
  from_ : 0 ≤ p.From ∧ p.From ≤ 10
  to_ : 0 ≤ p.To ∧ p.To ≤ 10
  del : 0 ≤ p.Delay ∧ p.Delay ≤ 1000
  tok : 0 ≤ p.Tokens ∧ p.Tokens ≤ 5
theorem graph_good {g : TGraph} (h : graphB g = true) : (1 ≤ g.Events ∧ g.Events ≤ 10) ∧ g.Places.length ≤ 30 ∧ ∀ p ∈ g.Places, PlG g.Events p := by
  simp only [graphB, Bool.and_eq_true, inB, decide_eq_true_eq, List.all_eq_true] at h
  obtain ⟨⟨h1, h2⟩, h3⟩ := h
  refine ⟨h1, h2, fun p hp => ?_⟩
  have := h3 p hp
  simp only [placeB, inB, Bool.and_eq_true, decide_eq_true_eq] at this
  rw [w64_eq _ (by omega)] at this
  obtain ⟨⟨⟨a, b⟩, c⟩, d⟩ := this
  exact ⟨by omega, by omega, by omega, by omega⟩
def spl (c : UInt8) : List UInt8 → List (List UInt8)
  | [] => [[]]
  | b :: t => if b = c then [] :: spl c t else (b :: (spl c t).headD []) :: (spl c t).tail
theorem spl_hit (c : UInt8) (t : List UInt8) : spl c (c :: t) = [] :: spl c t := by rw [spl, if_pos rfl]
theorem spl_step {b c : UInt8} (h : b ≠ c) (t : List UInt8) : spl c (b :: t) = (b :: (spl c t).headD []) :: (spl c t).tail := by rw [spl, if_neg h]
theorem spl_ne (c : UInt8) (l : List UInt8) : spl c l ≠ [] := by
  cases l with
  | nil => simp [spl]
  | cons b t => rw [spl]; split <;> simp
theorem spl_no {c : UInt8} : ∀ {a : List UInt8}, c ∉ a → spl c a = [a]
  | [], _ => rfl
  | b :: t, h => by
    have h1 : b ≠ c := fun e => h (by simp [e])
    rw [spl_step h1, spl_no (a := t) fun q => h (by simp [q])]; rfl
theorem spl_app {c : UInt8} : ∀ {a : List UInt8} (t : List UInt8), c ∉ a → spl c (a ++ c :: t) = a :: spl c t
  | [], t, _ => spl_hit c t
  | b :: a, t, h => by
    have h1 : b ≠ c := fun e => h (by simp [e])
    rw [List.cons_append, spl_step h1, spl_app (a := a) t fun q => h (by simp [q])]; rfl
theorem spl_cons_head (c : UInt8) (l : List UInt8) : spl c l = (spl c l).headD [] :: (spl c l).tail := by
  have := spl_ne c l
  cases h : spl c l with
  | nil => exact absurd h this
  | cons x t => rfl
/-- put together again -/
theorem spl_join (c : UInt8) : ∀ l : List UInt8, (spl c l).headD [] ++ ((spl c l).tail.map fun w => c :: w).flatten = l
  | [] => rfl
  | b :: t => by
    have ih := spl_join c t
    by_cases h : b = c
    · subst h
      rw [spl_hit]
      show [] ++ ((spl b t).map fun w => b :: w).flatten = _
      conv => rhs; rw [← ih]
      rw [spl_cons_head b t]
      rfl
    · rw [spl_step h]
      show (b :: (spl c t).headD []) ++ (((spl c t).tail).map fun w => c :: w).flatten = _
      rw [List.cons_append, ih]
theorem spl_len (c : UInt8) : ∀ l : List UInt8, (spl c l).length ≤ l.length + 1
  | [] => by simp [spl]
  | b :: t => by
    have ih := spl_len c t
    by_cases h : b = c
    · subst h; rw [spl_hit]; simp; omega
    · rw [spl_step h]
      have := spl_cons_head c t
      have h2 : (spl c t).length = (spl c t).tail.length + 1 := by rw [this]; simp
      simp; omega
theorem mem_part {c : UInt8} : ∀ {l : List UInt8}, c ∈ l → ∃ a t, c ∉ a ∧ l = a ++ c :: t
  | [], h => by cases h
  | b :: l, h => by
    by_cases e : b = c
    · exact ⟨[], l, by simp, by rw [e]; rfl⟩
    · have : c ∈ l := by
        rcases List.mem_cons.1 h with h | h
        · exact absurd h.symm e
        · exact h
      obtain ⟨a, t, h1, rfl⟩ := mem_part this
      exact ⟨b :: a, t, by simp only [List.mem_cons, not_or]; exact ⟨fun q => e q.symm, h1⟩, rfl⟩
theorem index_no {c : UInt8} {l : List UInt8} (h : c ∉ l) : Lib.index l [c] = -1 := by
  rw [Lib.index_one]
  induction l with
  | nil => rfl
  | cons b t ih =>
    have h1 : (b == c) = false := by simpa using fun e => h (by simp [e])
    rw [Lib.indexByte, ih fun q => h (by simp [q]), h1]; rfl
theorem index_at {c : UInt8} {a : List UInt8} (t : List UInt8) (h : c ∉ a) : Lib.index (a ++ c :: t) [c] = a.length := by
  rw [Lib.index_one]
  induction a with
  | nil => simp [Lib.indexByte]
  | cons b a ih =>
    have h1 : (b == c) = false := by simpa using fun e => h (by simp [e])
    have h2 := ih fun q => h (by simp [q])
    have h3 : (Lib.indexByte (a ++ c :: t) c == -1) = false := by rw [h2]; simp
    rw [List.cons_append, Lib.indexByte, h1, h3, h2]
    simp
theorem cut_no {c : UInt8} {l : List UInt8} (h : c ∉ l) : Lib.cut l [c] = (l, [], false) := by
  unfold Lib.cut
  rw [index_no h]; rfl
theorem cut_at {c : UInt8} {a : List UInt8} (t : List UInt8) (h : c ∉ a) : Lib.cut (a ++ c :: t) [c] = (a, t, true) := by
  unfold Lib.cut
  rw [index_at t h, if_pos (by omega)]
  have e : ((a.length : Nat) : Int).toNat = a.length := by omega
  rw [e]
  simp
theorem splitK_spl (c : UInt8) : ∀ (n : Nat) (l : List UInt8), l.length ≤ n → Lib.splitK [c] 0 (Lib.count l [c]) l = spl c l
  | n, l, hn => by
    by_cases h : c ∈ l
    · obtain ⟨a, t, ha, rfl⟩ := mem_part h
      have hi := index_at t ha
      have e : (a ++ c :: t).drop (a.length + [c].length) = t := by simp
      rw [Lib.count_hit (by simp) hi, e, Nat.add_comm 1, Lib.splitK, hi, if_neg (by simp)]
      have e2 : ((a.length : Nat) : Int).toNat = a.length := by omega
      rw [e2, e]
      cases n with
      | zero => simp at hn
      | succ n =>
        rw [splitK_spl c n t (by simp at hn; omega), spl_app t ha]
        simp
    · rw [Lib.count_miss (index_no h)]
      rw [spl_no h]; rfl
theorem splitB_spl (c : UInt8) (l : List UInt8) : Lib.splitB (strB [c]) 0 (Lib.countB (strB l) (strB [c])) (strB l) = (spl c l).map strB := by
  have h : (Lib.splitB (strB [c]) 0 (Lib.countB (strB l) (strB [c])) (strB l)).map (·.data.toList) = spl c l := by
    rw [Lib.splitB_data]
    exact splitK_spl c l.length l (Nat.le_refl _)
  rw [← h, List.map_map]
  conv => lhs; rw [← List.map_id (Lib.splitB _ _ _ _)]
  refine List.map_congr_left fun x _ => ?_
  simp [strB]
theorem digit_toNat {u : Nat} (h : u < 10) : (UInt8.ofNat (48 + u)).toNat = 48 + u := by
  simp [UInt8.toNat_ofNat']; omega
def isDig (b : UInt8) : Bool := decide (48 ≤ b.toNat) && decide (b.toNat ≤ 57)
theorem digits_all : ∀ u : Nat, (Lib.decDigits u).all isDig = true := by
  intro u
  induction u using Nat.strongRecOn with
  | _ u ih =>
    by_cases h : u < 10
    · rw [Lib.decDigits_one h]
      simp [isDig, digit_toNat h]; omega
    · rw [digits_next h, List.all_append, ih (u / 10) (by omega)]
      simp [isDig, digit_toNat (Nat.mod_lt u (by decide : 0 < 10))]; omega
theorem digits_le : ∀ (k u : Nat), u < 10 ^ (k + 1) → (Lib.decDigits u).length ≤ k + 1
  | 0, u, h => by rw [Lib.decDigits_one (by simpa using h)]; simp
  | k + 1, u, h => by
    by_cases hu : u < 10
    · rw [Lib.decDigits_one hu]; simp
    · rw [digits_next hu, List.length_append, List.length_singleton]
      have := digits_le k (u / 10) (by rw [Nat.pow_succ] at h; omega)
      omega
theorem digits_mem {u : Nat} {b : UInt8} (h : b ∈ Lib.decDigits u) : 48 ≤ b.toNat ∧ b.toNat ≤ 57 := by
  have := List.all_eq_true.1 (digits_all u) b h
  simpa [isDig] using this
theorem digits_not {u : Nat} {c : UInt8} (h : c.toNat < 48 ∨ 57 < c.toNat) : c ∉ Lib.decDigits u := fun q => by
  have := digits_mem q
  omega
/-- the number that digits spell -/
def digV (l : List UInt8) : Nat := l.foldl (fun a b => 10 * a + (b.toNat - 48)) 0
theorem digV_digits (u : Nat) : digV (Lib.decDigits u) = u := by
  induction u using Nat.strongRecOn with
  | _ u ih =>
    by_cases h : u < 10
    · rw [Lib.decDigits_one h]
      show 10 * 0 + ((UInt8.ofNat (48 + u)).toNat - 48) = u
      rw [digit_toNat h]; omega
    · rw [digits_next h]
      unfold digV
      rw [List.foldl_append]
      show 10 * digV (Lib.decDigits (u / 10)) + ((UInt8.ofNat (48 + u % 10)).toNat - 48) = u
      rw [ih (u / 10) (by omega), digit_toNat (Nat.mod_lt u (by decide : 0 < 10))]
      omega
theorem digV_lt : ∀ (l : List UInt8) (a : Nat), l.all isDig = true → l.foldl (fun a b => 10 * a + (b.toNat - 48)) a < (a + 1) * 10 ^ l.length
  | [], a, _ => by simp
  | b :: t, a, h => by
    rw [List.all_cons, Bool.and_eq_true] at h
    have h1 := h.1
    simp only [isDig, Bool.and_eq_true, decide_eq_true_eq] at h1
    have := digV_lt t (10 * a + (b.toNat - 48)) h.2
    rw [List.foldl_cons]
    refine Nat.lt_of_lt_of_le this ?_
    rw [List.length_cons, Nat.pow_succ, Nat.mul_comm (10 ^ t.length) 10, ← Nat.mul_assoc]
    exact Nat.mul_le_mul_right _ (by omega)
theorem pU_digits (u : Nat) (hu : u ≤ 1000000) (r : List UInt8) : Lib.parseUintM 18446744073709551615 0 (Lib.decDigits u ++ r) = Lib.parseUintM 18446744073709551615 u r := by
  induction u using Nat.strongRecOn generalizing r with
  | _ u ih =>
    by_cases h : u < 10
    · rw [Lib.decDigits_one h, List.singleton_append, Lib.parseUintM, digit_toNat h, if_pos (by omega), if_neg (by omega), if_neg (by omega)]
      congr 1; omega
    · rw [digits_next h, List.append_assoc, ih (u / 10) (by omega) (by omega), List.singleton_append, Lib.parseUintM, digit_toNat (Nat.mod_lt u (by decide : 0 < 10)), if_pos (by omega), if_neg (by omega), if_neg (by omega)]
      congr 1; omega
theorem pI_digits {u : Nat} (hu : u ≤ 1000000) : Lib.parseIntB 64 (Lib.decDigits u) = .ok (u : Int) := by
  have hp := digits_pos u
  obtain ⟨c, r, e⟩ : ∃ c r, Lib.decDigits u = c :: r := by
    cases h : Lib.decDigits u with
    | nil => rw [h] at hp; simp at hp
    | cons c r => exact ⟨c, r, rfl⟩
  have hc := digits_mem (u := u) (b := c) (by rw [e]; simp)
  have key : Lib.parseUintB 64 (c :: r) = .ok u := by
    unfold Lib.parseUintB
    rw [if_neg (by simp), ← e]
    have := pU_digits u hu []
    rw [List.append_nil] at this
    exact this
  rw [e]
  unfold Lib.parseIntB
  simp only
  rw [if_neg (by omega), key]
  simp only
  rw [if_neg (by omega), if_neg (by omega), if_neg (by omega)]
theorem pI_range {l : List UInt8} {v : Int} (h : Lib.parseIntB 64 l = .ok v) : -9223372036854775808 ≤ v ∧ v ≤ 9223372036854775807 := by
  unfold Lib.parseIntB at h
  split at h
  · cases h
  · rename_i c r
    simp only at h
    split at h
    · cases h
    · cases h
    · rename_i u hu
      split at h
      · cases h
      · split at h
        · cases h
        · rename_i h1 h2
          simp only [Lib.NumEnd.ok.injEq] at h
          subst h
          have p : (2 : Nat) ^ (64 - 1) = 9223372036854775808 := by decide
          rw [p] at h1 h2
          split <;> omega
theorem itoa_pos {v : Int} (h : 0 ≤ v) : Lib.itoa v = Lib.decDigits v.toNat := by
  unfold Lib.itoa
  rw [if_neg (by omega)]

theorem strB_data (s : ByteArray) : strB s.data.toList = s := by
  apply ByteArray.ext
  simp [strB]
theorem strB_list (l : List UInt8) : (strB l).data.toList = l := by simp [strB]
theorem strB_get (l : List UInt8) (k : Nat) : (strB l)[k]? = l[k]? := by
  by_cases h : k < l.length
  · rw [List.getElem?_eq_getElem h, getElem?_pos (strB l) k (show k < (strB l).size from h)]; rfl
  · rw [List.getElem?_eq_none (by omega), getElem?_neg (strB l) k (show ¬ k < (strB l).size from h)]
theorem strB_sub (l : List UInt8) (a b : Nat) : (strB l).extract a b = strB ((l.take b).drop a) := by
  apply ByteArray.ext
  apply Array.toList_inj.1
  rw [Lib.extract_data]
  simp [strB, List.drop_take]
theorem toList_loop (s : ByteArray) : ∀ (k i : Nat) (r : List UInt8), s.size - i = k → ByteArray.toList.loop s i r = r.reverse ++ s.data.toList.drop i := by
  intro k
  induction k with
  | zero =>
    intro i r h
    rw [ByteArray.toList.loop, if_neg (by omega), List.drop_eq_nil_of_le (by simp; omega), List.append_nil]
  | succ k ih =>
    intro i r h
    have hi : i < s.size := by omega
    rw [ByteArray.toList.loop, if_pos hi, ih (i + 1) _ (by omega), List.reverse_cons, List.append_assoc]
    congr 1
    rw [List.drop_eq_getElem_cons (show i < s.data.toList.length by simpa using hi)]
    simp only [List.singleton_append, List.cons.injEq, and_true]
    rw [ByteArray.get!, getElem!_pos s.data i hi]
    simp
theorem toList_data (s : ByteArray) : s.toList = s.data.toList := by
  have := toList_loop s s.size 0 [] rfl
  simpa [ByteArray.toList] using this
theorem toList_strB (l : List UInt8) : (strB l).toList = l := by rw [toList_data, strB_list]
theorem Conv_sidx {l : List UInt8} {k : Nat} {b : UInt8} (h : l[k]? = some b) {i : Int} (e : i = k) : M.Conv (M.sidx (strB l) i) ((b.toNat : Nat) : Int) := by
  subst e
  refine ⟨0, fun _ _ => ?_⟩
  unfold M.sidx
  rw [decide_eq_true (by omega : (0 : Int) ≤ (k : Int)), cond_true, Int.toNat_natCast, strB_get, h]
  rfl
theorem Conv_ssub {l : List UInt8} {i j : Int} (h0 : 0 ≤ i) (h1 : i ≤ j) (h2 : j ≤ (l.length : Int)) : M.Conv (M.ssub (strB l) i j) (strB ((l.take j.toNat).drop i.toNat)) := by
  refine ⟨0, fun _ _ => ?_⟩
  unfold M.ssub
  rw [decide_eq_true h0, decide_eq_true h1, decide_eq_true (show j ≤ (((strB l).size : Nat) : Int) from h2), strB_sub]
  rfl
theorem l01Split_ok {l : List UInt8} {c : UInt8} {ci : Int} (ec : ci = (c.toNat : Nat)) (hl : l.length ≤ 1000000000) : M.Conv (spec_l01Split (strB l) ci) ((spl c l).map strB) := by
  subst ec
  unfold spec_l01Split
  refine M.Conv_bind (x := ((spl c l).map strB, ((l.length + 1 : Nat) : Int), ((l.length + 1 : Nat) : Int))) ?_ (M.Conv_ret _)
  apply M.TC.conv
  refine M.TC_loop (fun (w : List ByteArray × Int × Int) => ∃ (o : List (List UInt8)) (f i : Nat), w = (o.map strB, (f : Int), (i : Int)) ∧ o.length ≤ i ∧ ((i ≤ l.length ∧ f ≤ i ∧ spl c l = o ++ spl c (l.drop f) ∧ c ∉ (l.take i).drop f) ∨ (i = l.length + 1 ∧ f = i ∧ o = spl c l)))
    (fun w => ((l.length : Int) + 1 - w.2.2).toNat) _ ⟨[], 0, 0, rfl, by simp, .inl ⟨by omega, by omega, by simp, by simp⟩⟩ fun w hI => ?_
  obtain ⟨o, f, i, rfl, hol, hI⟩ := hI
  have sz : ((strB l).size : Int) = (l.length : Int) := rfl
  simp only [sz]
  refine M.TC_ite (fun t => ?_) (fun t => M.TC_ret (.inr ⟨_, rfl, ?_⟩))
  · have t := of_decide_eq_true t
    have hi : i ≤ l.length := by omega
    obtain ⟨_, hf, he, hn⟩ : i ≤ l.length ∧ f ≤ i ∧ spl c l = o ++ spl c (l.drop f) ∧ c ∉ (l.take i).drop f := by
      rcases hI with h | h
      · exact h
      · omega
    have ew : w64 ((i : Int) + 1) = ((i + 1 : Nat) : Int) := by rw [w64_eq _ (by omega)]; omega
    have hb : M.Conv (M.ite ((i : Int) == (l.length : Int)) (M.ret true) (M.bind (M.sidx (strB l) (i : Int)) (fun x3 => M.ret (x3 == ((c.toNat : Nat) : Int))))) (decide (i = l.length ∨ l[i]? = some c)) := by
      refine M.Conv_ite (fun q => (M.Conv_ret _).of ?_) (fun q => ?_)
      · have : i = l.length := by have := eq_of_beq q; omega
        rw [decide_eq_true (.inl this)]
      · have hne : i ≠ l.length := fun e => by subst e; simp at q
        have hlt : i < l.length := by omega
        refine M.Conv_bind (Conv_sidx (List.getElem?_eq_getElem hlt) rfl) ((M.Conv_ret _).of ?_)
        rw [List.getElem?_eq_getElem hlt]
        by_cases e : l[i] = c
        · rw [decide_eq_true (.inr (by rw [e])), e]; simp
        · rw [decide_eq_false (by simp [hne, e])]
          have : ¬ ((l[i].toNat : Nat) : Int) = ((c.toNat : Nat) : Int) := fun h => e (UInt8.toNat_inj.1 (by omega))
          simpa using this
    refine M.TC_bindC hb ?_
    by_cases hc : i = l.length ∨ l[i]? = some c
    · rw [decide_eq_true hc]
      refine M.TC_bindC (x := ((o ++ [(l.take i).drop f]).map strB, ((i + 1 : Nat) : Int))) (M.Conv_ite (fun _ => ?_) (fun q => by cases q)) (M.TC_ret (.inl ⟨_, rfl, ?_, ?_⟩))
      · refine M.Conv_bind (Conv_ssub (by omega) (by omega) (by omega)) (M.Conv_bind (M.Conv_app (by simp; omega)) ((M.Conv_ret _).of ?_))
        rw [ew]
        simp
      · simp only [ew]
        have hd : l.drop f = (l.take i).drop f ++ l.drop i := by
          conv => lhs; rw [← List.take_append_drop i l]
          rw [List.drop_append_of_le_length (by rw [List.length_take]; omega)]
        refine ⟨o ++ [(l.take i).drop f], i + 1, i + 1, rfl, by simp; omega, ?_⟩
        by_cases hil : i = l.length
        · refine .inr ⟨by omega, rfl, ?_⟩
          rw [he, hd, hil, List.drop_length, List.append_nil, spl_no (by rw [← hil]; exact hn)]
        · have hlt : i < l.length := by omega
          have hcc : l[i]? = some c := by rcases hc with h | h; exact absurd h hil; exact h
          refine .inl ⟨by omega, by omega, ?_, by rw [List.drop_eq_nil_of_le (by rw [List.length_take]; omega)]; simp⟩
          have hdi : l.drop i = c :: l.drop (i + 1) := by
            rw [List.drop_eq_getElem_cons hlt]
            rw [List.getElem?_eq_getElem hlt] at hcc
            rw [Option.some.inj hcc]
          rw [he, hd, hdi, spl_app _ hn, List.append_assoc]; rfl
      · simp only [ew]; omega
    · rw [decide_eq_false hc]
      refine M.TC_bindC (x := (o.map strB, (f : Int))) (M.Conv_ite (fun q => by cases q) (fun _ => M.Conv_ret _)) (M.TC_ret (.inl ⟨_, rfl, ?_, ?_⟩))
      · simp only [ew]
        have hlt : i < l.length := by
          have : i ≠ l.length := fun e => hc (.inl e)
          omega
        refine ⟨o, f, i + 1, rfl, by omega, .inl ⟨by omega, by omega, he, ?_⟩⟩
        rw [List.take_add_one, List.getElem?_eq_getElem hlt, List.drop_append_of_le_length (by rw [List.length_take]; omega)]
        simp only [Option.toList, List.mem_append, List.mem_singleton, not_or]
        exact ⟨hn, fun e => hc (.inr (by rw [List.getElem?_eq_getElem hlt, e]))⟩
      · simp only [ew]; omega
  · have t := of_decide_eq_false t
    rcases hI with ⟨h, _⟩ | ⟨h1, h2, h3⟩
    · omega
    · rw [h3, h2, h1]
theorem dec_R2 (u : Nat) : ∀ k n, u < 100000000000 → u + 1 ≤ k → spec_l01Dec_R k (u : Int) n = some (strB (Lib.decDigits u)) := by
  induction u using Nat.strongRecOn with
  | _ u ih =>
    intro k n hu hk
    obtain ⟨k, rfl⟩ : ∃ q, k = q + 1 := ⟨k - 1, by omega⟩
    by_cases h : u < 10
    · rw [dec_one k n (by omega), toS_one rfl h, Lib.decDigits_one h]
    · have hl := digits_le 10 (u / 10) (by omega)
      refine dec_more k n (by omega) (b := strB (Lib.decDigits (u / 10))) ?_ ?_
      · rw [tdiv10, w64_eq _ (by omega)]
        exact ih (u / 10) (by omega) k n (by omega) (by omega)
      · rw [tmod10, toS_one rfl (by omega), cat_run n (by rw [List.length_singleton]; omega), ← digits_next h]
theorem l01Dec_ok2 {u : Nat} (h : u < 100000000000) : M.Conv (spec_l01Dec (u : Int)) (strB (Lib.decDigits u)) := ⟨u + 1, fun k hk => dec_R2 u k k h hk⟩
def digP (l : List UInt8) : Int × Bool :=
  if l.length < 1 ∨ 10 < l.length then (0, false) else if l.all isDig then ((digV l : Int), decide (Lib.decDigits (digV l) = l)) else (0, false)
theorem l01Digits_ok (l : List UInt8) : M.Conv (spec_l01Digits (strB l)) (digP l) := by
  unfold spec_l01Digits digP
  have sz : ((strB l).size : Int) = (l.length : Int) := rfl
  rw [sz]
  by_cases hlen : l.length < 1 ∨ 10 < l.length
  · rw [if_pos hlen]
    refine M.Conv_ite (fun _ => M.Conv_ret _) (fun q => ?_)
    simp only [Bool.or_eq_false_iff, decide_eq_false_iff_not] at q
    omega
  · rw [if_neg hlen]
    refine M.Conv_ite (fun q => ?_) (fun _ => ?_)
    · simp only [Bool.or_eq_true, decide_eq_true_eq] at q
      omega
    · have loop : M.TC (M.forI (ρ := Int ⊕ (Int × Bool)) 0 (l.length : Int) (fun s => .inl s) (fun i1 => (fun (s1 : Int) => M.bind (M.sidx (strB l) i1) (fun x3 => M.bind (M.ite (decide (x3 < 48)) (M.ret true) (M.bind (M.sidx (strB l) i1) (fun x5 => M.ret (decide (57 < x5))))) (fun x4 => M.ite x4 (M.ret (.inr (.inr ((0 : Int), false)))) (M.bind (M.sidx (strB l) i1) (fun x6 => M.ret (.inl (w64 ((w64 (10 * s1)) + (w64 (IntKind.u8.wrap (x6 - 48)))))))))))) 0)
          (fun (r : Int ⊕ (Int × Bool)) => (l.all isDig = true ∧ r = .inl ((digV l : Nat) : Int)) ∨ (l.all isDig = false ∧ r = .inr ((0 : Int), false))) := by
        refine M.TC_for (fun i s => ∃ k : Nat, i = k ∧ k ≤ l.length ∧ (l.take k).all isDig = true ∧ s = ((digV (l.take k) : Nat) : Int)) 0 (by omega) (by omega) ⟨0, rfl, by omega, rfl, rfl⟩ ?_ ?_
        · rintro i s h0 h1 ⟨k, rfl, hk, ha, rfl⟩
          have hlt : k < l.length := by omega
          have hx := List.getElem?_eq_getElem hlt
          generalize l[k] = b at hx
          have etk : l.take (k + 1) = l.take k ++ [b] := by rw [List.take_add_one, hx]; rfl
          have hbound := digV_lt (l.take k) 0 ha
          have hp : (10 : Nat) ^ (l.take k).length ≤ 10 ^ 10 := Nat.pow_le_pow_right (by omega) (by rw [List.length_take]; omega)
          have hv : digV (l.take k) < 10000000000 := by unfold digV; omega
          refine M.TC_bindC (Conv_sidx hx rfl) ?_
          refine M.TC_bindC (x := !isDig b) ?_ ?_
          · refine M.Conv_ite (fun q => (M.Conv_ret _).of ?_) (fun q => M.Conv_bind (Conv_sidx hx rfl) ((M.Conv_ret _).of ?_))
            · have := of_decide_eq_true q
              rw [isDig, decide_eq_false (by omega : ¬ 48 ≤ b.toNat)]; rfl
            · have := of_decide_eq_false q
              rw [isDig, decide_eq_true (by omega : 48 ≤ b.toNat), Bool.true_and]
              by_cases h : b.toNat ≤ 57
              · rw [decide_eq_true h, decide_eq_false (by omega)]; rfl
              · rw [decide_eq_false h, decide_eq_true (by omega)]; rfl
          · refine M.TC_ite (fun q => M.TC_ret (.inr ⟨_, rfl, .inr ⟨?_, rfl⟩⟩)) (fun q => M.TC_bindC (Conv_sidx hx rfl) (M.TC_ret (.inl ⟨_, rfl, k + 1, by omega, by omega, ?_, ?_⟩)))
            · simp only [Bool.not_eq_true'] at q
              rw [List.all_eq_false]
              exact ⟨b, List.mem_of_getElem? hx, by rw [q]; simp⟩
            · rw [etk, List.all_append, ha]
              simp only [Bool.not_eq_false'] at q
              simp [q]
            · simp only [Bool.not_eq_false'] at q
              simp only [isDig, Bool.and_eq_true, decide_eq_true_eq] at q
              rw [wrap8 (by omega), w64_eq (10 * _) (by omega), w64_eq (_ - _) (by omega), w64_eq _ (by omega), etk]
              unfold digV
              rw [List.foldl_append]
              simp only [List.foldl_cons, List.foldl_nil]
              omega
        · rintro i s hd ⟨k, rfl, hk, ha, rfl⟩
          have : k = l.length := by omega
          subst this
          rw [List.take_length] at ha ⊢
          exact .inl ⟨ha, rfl⟩
      obtain ⟨r, hr, hp⟩ := loop
      refine M.Conv_bind hr ?_
      rcases hp with ⟨ha, rfl⟩ | ⟨ha, rfl⟩
      · rw [if_pos ha]
        have hbound := digV_lt l 0 ha
        have hp : (10 : Nat) ^ l.length ≤ 10 ^ 10 := Nat.pow_le_pow_right (by omega) (by omega)
        have hv : digV l < 10000000000 := by unfold digV; omega
        show M.Conv (M.bind (spec_l01Dec ((digV l : Nat) : Int)) (fun x7 => M.ret (((digV l : Nat) : Int), (x7.toList == (strB l).toList)))) _
        refine M.Conv_bind (l01Dec_ok2 (by omega)) ((M.Conv_ret _).of ?_)
        rw [toList_strB, toList_strB]
        congr 1
        by_cases h : Lib.decDigits (digV l) = l
        · rw [decide_eq_true h, h]; simp
        · rw [decide_eq_false h]; simpa using h
      · rw [if_neg (by rw [ha]; simp)]
        exact M.Conv_ret _
theorem digP_val (l : List UInt8) : 0 ≤ (digP l).1 ∧ (digP l).1 < 10000000000 := by
  unfold digP
  split
  · simp
  · split
    · rename_i h ha
      have hbound := digV_lt l 0 ha
      have hp : (10 : Nat) ^ l.length ≤ 10 ^ 10 := Nat.pow_le_pow_right (by omega) (by omega)
      have hv : digV l < 10000000000 := by unfold digV; omega
      simp only; omega
    · simp
def sgnP (l : List UInt8) : Int × Bool := if l.head? = some 45 then (-(digP l.tail).1, (digP l.tail).2 && decide (0 < (digP l.tail).1)) else digP l
theorem l01Signed_ok {l : List UInt8} (hl : l.length ≤ 1000000000) : M.Conv (spec_l01Signed (strB l)) (sgnP l) := by
  unfold spec_l01Signed sgnP
  have sz : ((strB l).size : Int) = (l.length : Int) := rfl
  rw [sz]
  refine M.Conv_bind (x := decide (l.head? = some 45)) ?_ ?_
  · refine M.Conv_ite (fun q => ?_) (fun q => (M.Conv_ret _).of ?_)
    · have q := of_decide_eq_true q
      obtain ⟨b, t, rfl⟩ : ∃ b t, l = b :: t := by
        cases l with
        | nil => simp at q
        | cons b t => exact ⟨b, t, rfl⟩
      refine M.Conv_bind (Conv_sidx (k := 0) rfl rfl) ((M.Conv_ret _).of ?_)
      by_cases h : b = 45
      · subst h; rfl
      · have h2 : ¬ (b :: t).head? = some 45 := fun e => h (Option.some.inj e)
        rw [decide_eq_false h2]
        have : ¬ ((b.toNat : Nat) : Int) = 45 := fun e => h (UInt8.toNat_inj.1 (by have : (45 : UInt8).toNat = 45 := rfl; omega))
        simpa using this
    · have q := of_decide_eq_false q
      have : l = [] := List.length_eq_zero_iff.1 (by omega)
      subst this; rfl
  · refine M.Conv_ite (fun q => ?_) (fun q => ?_)
    · have q := of_decide_eq_true q
      rw [if_pos q]
      obtain ⟨b, t, rfl⟩ : ∃ b t, l = b :: t := by
        cases l with
        | nil => simp at q
        | cons b t => exact ⟨b, t, rfl⟩
      have e : (List.take (((b :: t).length : Nat) : Int).toNat (b :: t)).drop (1 : Int).toNat = t := by
        rw [Int.toNat_natCast, List.take_length]; rfl
      refine M.Conv_bind (Conv_ssub (by omega) (by simp only [List.length_cons]; omega) (by omega)) ?_
      rw [e]
      refine M.Conv_bind (l01Digits_ok t) ((M.Conv_ret _).of ?_)
      have := digP_val t
      have e0 : (0 : Int) - (digP t).1 = -(digP t).1 := by omega
      rw [w64_eq _ (by omega), e0]
      rfl
    · have q := of_decide_eq_false q
      rw [if_neg q]
      exact M.Conv_bind (l01Digits_ok l) (M.Conv_ret _)
def numsP (ws : List (List UInt8)) : List Int × Bool := if ws.all (fun w => (sgnP w).2) then (ws.map (fun w => (sgnP w).1), true) else ([], false)
theorem l01Numbers_ok {ws : List (List UInt8)} (hw : ws.length ≤ 1000000000) (hl : ∀ w ∈ ws, w.length ≤ 1000000000) : M.Conv (spec_l01Numbers (ws.map strB)) (numsP ws) := by
  unfold spec_l01Numbers numsP
  have loop : M.TC (M.forI (ρ := List Int ⊕ (List Int × Bool)) 0 ((ws.map strB).length : Int) (fun s => .inl s) (fun i1 => (fun (s1 : (List Int)) => M.bind (M.idx (ws.map strB) i1) (fun x2 => M.bind (spec_l01Signed x2) (fun x3 => M.ite (!x3.2) (M.ret (.inr (.inr (([] : List Int), false)))) (M.bind (M.app s1 ([x3.1] : List Int)) (fun l1 => M.ret (.inl l1))))))) ([] : List Int))
      (fun (r : List Int ⊕ (List Int × Bool)) => (ws.all (fun w => (sgnP w).2) = true ∧ r = .inl (ws.map (fun w => (sgnP w).1))) ∨ (ws.all (fun w => (sgnP w).2) = false ∧ r = .inr (([] : List Int), false))) := by
    refine M.TC_for (fun i s => ∃ k : Nat, i = k ∧ k ≤ ws.length ∧ (ws.take k).all (fun w => (sgnP w).2) = true ∧ s = (ws.take k).map (fun w => (sgnP w).1)) [] (by omega) (by rw [List.length_map]; omega) ⟨0, rfl, by omega, rfl, rfl⟩ ?_ ?_
    · rintro i s h0 h1 ⟨k, rfl, hk, ha, rfl⟩
      rw [List.length_map] at h1
      have hlt : k < ws.length := by omega
      have hx := List.getElem?_eq_getElem hlt
      have hm := hl _ (List.getElem_mem hlt)
      generalize ws[k] = b at hx hm
      have etk : ws.take (k + 1) = ws.take k ++ [b] := by rw [List.take_add_one, hx]; rfl
      refine M.TC_bindC (M.Conv_idx (x := strB b) (by rw [List.getElem?_map, hx]; rfl)) (M.TC_bindC (l01Signed_ok hm) ?_)
      refine M.TC_ite (fun q => M.TC_ret (.inr ⟨_, rfl, .inr ⟨?_, rfl⟩⟩)) (fun q => M.TC_bindC (M.Conv_app (by rw [List.length_map, List.length_take]; simp; omega)) (M.TC_ret (.inl ⟨_, rfl, k + 1, by omega, by omega, ?_, ?_⟩)))
      · simp only [Bool.not_eq_true'] at q
        rw [List.all_eq_false]
        exact ⟨b, List.mem_of_getElem? hx, by rw [q]; simp⟩
      · rw [etk, List.all_append, ha]
        simp only [Bool.not_eq_false'] at q
        simp [q]
      · rw [etk]; simp
    · rintro i s hd ⟨k, rfl, hk, ha, rfl⟩
      rw [List.length_map] at hd
      have : k = ws.length := by omega
      subst this
      rw [List.take_length] at ha ⊢
      exact .inl ⟨ha, rfl⟩
  obtain ⟨r, hr, hp⟩ := loop
  refine M.Conv_bind hr ?_
  rcases hp with ⟨ha, rfl⟩ | ⟨ha, rfl⟩
  · rw [if_pos ha]; exact M.Conv_ret _
  · rw [if_neg (by rw [ha]; simp)]; exact M.Conv_ret _

def noPl : TPlace := ⟨0, 0, 0, 0⟩
def fourP (r : List Int × Bool) : TPlace × Bool := match r with
  | ([a, b, c, d], true) => (⟨a, b, c, d⟩, true)
  | _ => (noPl, false)
def l11P (w : List UInt8) : TPlace × Bool := match spl 62 w with
  | [a, r] => (match spl 58 r with
    | [b, t] => fourP (numsP (a :: b :: spl 42 t))
    | _ => (noPl, false))
  | _ => (noPl, false)
theorem spl_size {c : UInt8} {l : List UInt8} {n : Nat} (h : l.length ≤ n) : ∀ w ∈ spl c l, w.length ≤ n := by
  induction l with
  | nil => simp [spl]
  | cons b t ih =>
    have ih := ih (by simp at h; omega)
    have hd : ((spl c t).headD []).length ≤ t.length := by
      have := spl_join c t
      have := congrArg List.length this
      rw [List.length_append] at this
      omega
    intro w hw
    by_cases e : b = c
    · subst e
      rw [spl_hit] at hw
      rcases List.mem_cons.1 hw with rfl | hw
      · simp
      · exact ih w hw
    · rw [spl_step e] at hw
      rcases List.mem_cons.1 hw with rfl | hw
      · rw [List.length_cons] at h ⊢; omega
      · exact ih w (List.mem_of_mem_tail hw)
theorem spl_head_mem (c : UInt8) (l : List UInt8) : (spl c l).headD [] ∈ spl c l := by
  have := spl_ne c l
  cases h : spl c l with
  | nil => exact absurd h this
  | cons x t => simp
theorem two_or (l : List (List UInt8)) : (∃ a b, l = [a, b]) ∨ l.length ≠ 2 := by
  match l with
  | [a, b] => exact .inl ⟨a, b, rfl⟩
  | [] => exact .inr (by simp)
  | [a] => exact .inr (by simp)
  | a :: b :: c :: t => exact .inr (by simp)
theorem l11Read_ok {w : List UInt8} (hl : w.length ≤ 100000000) : M.Conv (spec_l11Read (strB w)) (l11P w) := by
  unfold spec_l11Read
  refine M.Conv_bind (l01Split_ok (c := 62) rfl (by omega)) ?_
  rcases two_or (spl 62 w) with ⟨a, r, e⟩ | hne
  · have hs := spl_size (c := 62) hl
    rw [e] at hs
    have ha := hs a (by simp)
    have hr := hs r (by simp)
    rw [e]
    refine M.Conv_ite (fun q => by simp at q) (fun _ => ?_)
    refine M.Conv_bind (M.Conv_idx (i := 1) (x := strB r) rfl) (M.Conv_bind (l01Split_ok (c := 58) rfl (by omega)) ?_)
    rcases two_or (spl 58 r) with ⟨b, t, e2⟩ | hne
    · have hs2 := spl_size (c := 58) hr
      rw [e2] at hs2
      have hb := hs2 b (by simp)
      have ht := hs2 t (by simp)
      rw [e2]
      refine M.Conv_ite (fun q => by simp at q) (fun _ => ?_)
      have hlen := spl_len 42 t
      have el : l11P w = fourP (numsP (a :: b :: spl 42 t)) := by unfold l11P; rw [e]; simp only; rw [e2]
      rw [el]
      refine M.Conv_bind (x := numsP (a :: b :: spl 42 t)) ?_ ?_
      · refine M.Conv_bind (M.Conv_idx (i := 0) (x := strB a) rfl) (M.Conv_bind (M.Conv_idx (i := 0) (x := strB b) rfl) (M.Conv_bind (M.Conv_idx (i := 1) (x := strB t) rfl) (M.Conv_bind (l01Split_ok (c := 42) rfl (by omega)) (M.Conv_bind (M.Conv_app (by simp; omega)) ?_))))
        exact M.Conv_bind (l01Numbers_ok (ws := a :: b :: spl 42 t) (by simp; omega) (fun w hw => by
          rcases List.mem_cons.1 hw with rfl | hw
          · omega
          · rcases List.mem_cons.1 hw with rfl | hw
            · omega
            · have := spl_size (c := 42) ht w hw; omega)) (M.Conv_ret _)
      · generalize numsP (a :: b :: spl 42 t) = s
        obtain ⟨l, ok⟩ := s
        cases ok with
        | false => exact M.Conv_ite (fun _ => (M.Conv_ret _).of (by unfold fourP; split <;> first | rfl | (rename_i h; cases h))) (fun q => by simp at q)
        | true =>
          match l with
          | [x0, x1, x2, x3] =>
            refine M.Conv_ite (fun q => by simp at q) (fun _ => ?_)
            exact M.Conv_bind (M.Conv_idx (i := 0) rfl) (M.Conv_bind (M.Conv_idx (i := 1) rfl) (M.Conv_bind (M.Conv_idx (i := 2) rfl) (M.Conv_bind (M.Conv_idx (i := 3) rfl) (M.Conv_ret _))))
          | [] => exact M.Conv_ite (fun _ => M.Conv_ret _) (fun q => by simp at q)
          | [x0] => exact M.Conv_ite (fun _ => M.Conv_ret _) (fun q => by simp at q)
          | [x0, x1] => exact M.Conv_ite (fun _ => M.Conv_ret _) (fun q => by simp at q)
          | [x0, x1, x2] => exact M.Conv_ite (fun _ => M.Conv_ret _) (fun q => by simp at q)
          | x0 :: x1 :: x2 :: x3 :: x4 :: t => exact M.Conv_ite (fun _ => M.Conv_ret _) (fun q => by simp at q; omega)
    · have el : l11P w = (noPl, false) := by
        unfold l11P; rw [e]; simp only
        split
        · rename_i h; rw [h] at hne; simp at hne
        · rfl
      rw [el]
      exact M.Conv_ite (fun _ => M.Conv_ret _) (fun q => by simp at q; omega)
  · have el : l11P w = (noPl, false) := by
      unfold l11P
      split
      · rename_i h; rw [h] at hne; simp at hne
      · rfl
    rw [el]
    exact M.Conv_ite (fun _ => M.Conv_ret _) (fun q => by simp at q; omega)
/-- from the first word's number and the other words' places -/
def finG (e : Int × Bool) (ps : List (TPlace × Bool)) : TGraph × Bool :=
  if (e.2 && ps.all (·.2)) && graphB ⟨e.1, ps.map (·.1)⟩ then (⟨e.1, ps.map (·.1)⟩, true) else (⟨0, []⟩, false)
theorem fin_ok {isG : TGraph → M Bool} (H : ∀ g : TGraph, g.Places.length ≤ 9223372036854775806 → M.Conv (isG g) (graphB g)) (e : Int × Bool) (ps : List (TPlace × Bool)) (hp : ps.length ≤ 1000000000) :
    M.Conv (M.bind (M.ite (!(e.2 && ps.all (·.2))) (M.ret true) (M.bind (isG (⟨e.1, ps.map (·.1)⟩ : TGraph)) (fun x9 => M.ret (!x9)))) (fun x8 => M.ite x8 (M.ret ((⟨0, []⟩ : TGraph), false)) (M.ret ((⟨e.1, ps.map (·.1)⟩ : TGraph), true)))) (finG e ps) := by
  refine M.Conv_bind (x := !((e.2 && ps.all (·.2)) && graphB ⟨e.1, ps.map (·.1)⟩)) ?_ ?_
  · refine M.Conv_ite (fun q => (M.Conv_ret _).of ?_) (fun q => M.Conv_bind (H _ (by simp; omega)) ((M.Conv_ret _).of ?_))
    · simp only [Bool.not_eq_true'] at q; rw [q]; rfl
    · simp only [Bool.not_eq_false'] at q; rw [q]; rfl
  · unfold finG
    refine M.Conv_ite (fun q => ?_) (fun q => ?_)
    · simp only [Bool.not_eq_true'] at q
      rw [if_neg (by rw [q]; simp)]; exact M.Conv_ret _
    · simp only [Bool.not_eq_false'] at q
      rw [if_pos q]; exact M.Conv_ret _
/-- the places of the words, one after the other -/
theorem words_ok {f : ByteArray → M (TPlace × Bool)} {g : List UInt8 → TPlace × Bool} {ws : List (List UInt8)} {xs : List ByteArray} {lo hi : Int} {j : Nat} {b : Bool} (H : ∀ w ∈ ws, M.Conv (f (strB w)) (g w)) (hw : ws.length ≤ 1000000000) (hlo : lo = j) (hhi : hi = ((j + ws.length : Nat) : Int)) (hj : j ≤ 1) (hx : ∀ k, xs[j + k]? = (ws[k]?).map strB) :
    M.Conv (M.forI lo hi (fun s => s) (fun i1 => (fun (s1 : Bool × (List TPlace)) => M.bind (M.idx xs i1) (fun x5 => M.bind (f x5) (fun x6 => M.bind (M.app s1.2 ([x6.1] : List TPlace)) (fun l1 => M.ret (.inl ((s1.1 && x6.2), l1))))))) (b, ([] : List TPlace))) (b && (ws.map g).all (·.2), (ws.map g).map (·.1)) := by
  subst hlo hhi
  apply M.TC.conv
  refine M.TC_for (fun i s => ∃ k : Nat, i = ((j + k : Nat) : Int) ∧ k ≤ ws.length ∧ s = (b && ((ws.take k).map g).all (·.2), ((ws.take k).map g).map (·.1))) _ (by omega) (by omega) ⟨0, rfl, by omega, by simp⟩ ?_ ?_
  · rintro i s h0 h1 ⟨k, rfl, hk, rfl⟩
    have hlt : k < ws.length := by omega
    have hx1 := List.getElem?_eq_getElem hlt
    have hm := H _ (List.getElem_mem hlt)
    generalize ws[k] = w at hx1 hm
    have etk : ws.take (k + 1) = ws.take k ++ [w] := by rw [List.take_add_one, hx1]; rfl
    refine M.TC_bindC (M.Conv_idx (x := strB w) (by rw [hx k, hx1]; rfl)) (M.TC_bindC hm (M.TC_bindC (M.Conv_app (by simp only [List.length_map, List.length_take, List.length_singleton]; omega)) (M.TC_ret (.inl ⟨_, rfl, k + 1, by omega, by omega, ?_⟩))))
    rw [etk]
    simp [Bool.and_assoc]
  · rintro i s hd ⟨k, ek, hk, rfl⟩
    have : k = ws.length := by omega
    subst this
    rw [List.take_length]
def specR (l : List UInt8) : TGraph × Bool := finG (digP ((spl 32 l).headD [])) ((spl 32 l).tail.map l11P)
theorem spl_get (c : UInt8) (l : List UInt8) : ((spl c l).map strB)[0]? = some (strB ((spl c l).headD [])) := by
  rw [spl_cons_head c l]; rfl
theorem spec_ReadGraph_ok {l : List UInt8} (hl : l.length ≤ 10000000) : M.Conv (spec_ReadGraph (strB l)) (specR l) := by
  unfold spec_ReadGraph specR
  have hlen := spl_len 32 l
  have hsz := spl_size (c := 32) (l := l) (Nat.le_refl _)
  have hhd := spl_cons_head 32 l
  have htl : (spl 32 l).length = (spl 32 l).tail.length + 1 := by rw [hhd]; simp
  refine M.Conv_bind (l01Split_ok (c := 32) rfl (by omega)) (M.Conv_bind (M.Conv_idx (i := 0) (spl_get 32 l)) (M.Conv_bind (l01Digits_ok _) ?_))
  refine M.Conv_bind (words_ok (g := l11P) (ws := (spl 32 l).tail) (j := 1) (fun w hw => l11Read_ok (by have := hsz w (List.mem_of_mem_tail hw); omega)) (by omega) rfl (by rw [List.length_map]; omega) (by omega) (fun k => ?_)) ?_
  · rw [List.getElem?_map, Nat.add_comm 1 k]
    conv => lhs; rw [hhd]
    rfl
  · exact fin_ok (fun g hg => spec_IsEventGraph_ok hg) _ _ (by rw [List.length_map]; omega)
def numI (l : List UInt8) : Int × Bool := match Lib.parseIntB 64 l with
  | .ok v => if Lib.itoa v = l then (v, true) else (0, false)
  | _ => (0, false)
theorem readNumber_ok {l : List UInt8} (hl : l.length ≤ 1000000000) : M.Conv (impl_readNumber (strB l)) (numI l) := by
  unfold impl_readNumber
  refine M.Conv_bind (x := parseR (strB l)) (M.Conv_bind (M.Conv_guard ?_) (M.Conv_ret _)) ?_
  · have : (strB l).size ≤ 281474976710656 := by rw [strB_size]; omega
    simp [this]
  · unfold parseR numI
    rw [strB_list]
    cases hp : Lib.parseIntB 64 l
    · rename_i v
      have hr := pI_range hp
      simp only
      refine M.Conv_bind (x := !decide (Lib.itoa v = l)) (M.Conv_ite (fun q => by cases q) (fun _ => M.Conv_bind (x := strB (Lib.itoa v)) (M.Conv_bind (M.Conv_bind (M.Conv_guard ?_) (M.Conv_ret _)) (M.Conv_ret _)) ((M.Conv_ret _).of ?_))) ?_
      · simp; omega
      · rw [toList_strB, toList_strB]
        by_cases h : Lib.itoa v = l
        · rw [decide_eq_true h, h]; simp
        · rw [decide_eq_false h]; simpa using h
      · refine M.Conv_ite (fun q => ?_) (fun q => ?_)
        · simp only [Bool.not_eq_true', decide_eq_false_iff_not] at q
          rw [if_neg q]; exact M.Conv_ret _
        · simp only [Bool.not_eq_false', decide_eq_true_eq] at q
          rw [if_pos q]; exact M.Conv_ret _
    · exact M.Conv_bind (x := true) (M.Conv_ite (fun _ => M.Conv_ret _) (fun q => by cases q)) (M.Conv_ite (fun _ => M.Conv_ret _) (fun q => by cases q))
    · exact M.Conv_bind (x := true) (M.Conv_ite (fun _ => M.Conv_ret _) (fun q => by cases q)) (M.Conv_ite (fun _ => M.Conv_ret _) (fun q => by cases q))
def plI (w : List UInt8) : TPlace × Bool :=
  let c1 := Lib.cut w [62]; let c2 := Lib.cut c1.2.1 [58]; let c3 := Lib.cut c2.2.1 [42]
  if (numI c1.1).2 then if (numI c2.1).2 then if (numI c3.1).2 then if (numI c3.2.1).2 then (⟨(numI c1.1).1, (numI c2.1).1, (numI c3.1).1, (numI c3.2.1).1⟩, true) else (noPl, false) else (noPl, false) else (noPl, false) else (noPl, false)
theorem cut_size {c : UInt8} {l : List UInt8} {n : Nat} (h : l.length ≤ n) : (Lib.cut l [c]).1.length ≤ n ∧ (Lib.cut l [c]).2.1.length ≤ n := by
  by_cases hc : c ∈ l
  · obtain ⟨a, t, ha, rfl⟩ := mem_part hc
    rw [cut_at t ha]
    simp at h ⊢; omega
  · rw [cut_no hc]; exact ⟨h, by simp⟩
theorem Cut_ok {c : UInt8} {l : List UInt8} (h : l.length ≤ 1000000000) : M.Conv (strings_Cut (strB l) (strB [c])) (strB (Lib.cut l [c]).1, strB (Lib.cut l [c]).2.1, (Lib.cut l [c]).2.2) := by
  refine M.Conv_bind (M.Conv_guard ?_) ((M.Conv_ret _).of ?_)
  · rw [strB_size]; simp; omega
  · rw [strB_list]; rfl
theorem readPlace_ok {w : List UInt8} (hl : w.length ≤ 1000000000) : M.Conv (impl_readPlace (strB w)) (plI w) := by
  unfold impl_readPlace plI
  obtain ⟨s1, s1'⟩ := cut_size (c := 62) hl
  obtain ⟨s2, s2'⟩ := cut_size (c := 58) s1'
  obtain ⟨s3, s3'⟩ := cut_size (c := 42) s2'
  have no : ∀ {x : Int × Bool} {m : M (TPlace × Bool)} {r : TPlace × Bool}, (x.2 = true → M.Conv m r) → M.Conv (M.ite (!x.2) (M.ret ((⟨0, 0, 0, 0⟩ : TPlace), false)) m) (if x.2 then r else (noPl, false)) := by
    intro x m r h
    refine M.Conv_ite (fun q => ?_) (fun q => ?_)
    · simp only [Bool.not_eq_true'] at q
      rw [if_neg (by rw [q]; simp)]; exact M.Conv_ret _
    · simp only [Bool.not_eq_false'] at q
      rw [if_pos q]; exact h q
  refine M.Conv_bind (Cut_ok (c := 62) hl) (M.Conv_bind (Cut_ok (c := 58) s1') (M.Conv_bind (Cut_ok (c := 42) s2') ?_))
  exact M.Conv_bind (readNumber_ok s1) (no fun _ => M.Conv_bind (readNumber_ok s2) (no fun _ => M.Conv_bind (readNumber_ok s3) (no fun _ => M.Conv_bind (readNumber_ok s3') (no fun _ => M.Conv_ret _))))
def implR (l : List UInt8) : TGraph × Bool := finG (numI ((spl 32 l).headD [])) ((spl 32 l).tail.map plI)
theorem impl_ReadGraph_ok {l : List UInt8} (hl : l.length ≤ 10000000) : M.Conv (impl_ReadGraph (strB l)) (implR l) := by
  unfold impl_ReadGraph implR
  have hlen := spl_len 32 l
  have hsz := spl_size (c := 32) (l := l) (Nat.le_refl _)
  have hhd := spl_cons_head 32 l
  have htl : (spl 32 l).length = (spl 32 l).tail.length + 1 := by rw [hhd]; simp
  have hh : ((spl 32 l).headD []).length ≤ l.length := hsz _ (spl_head_mem 32 l)
  refine M.Conv_bind (x := (spl 32 l).map strB) (M.Conv_bind (M.Conv_guard ?_) ((M.Conv_ret _).of (splitB_spl 32 l))) ?_
  · have : (strB l).size < 4294967281 := by rw [strB_size]; omega
    simp [this]; decide
  refine M.Conv_bind (M.Conv_idx (i := 0) (spl_get 32 l)) (M.Conv_bind (readNumber_ok (by omega)) (M.Conv_bind (M.Conv_sub (by omega) (by rw [List.length_map]; omega) (by omega)) ?_))
  refine M.Conv_bind (words_ok (g := plI) (ws := (spl 32 l).tail) (j := 0) (fun w hw => readPlace_ok (by have := hsz w (List.mem_of_mem_tail hw); omega)) (by omega) rfl (by rw [List.length_map]; simp) (by omega) (fun k => ?_)) ?_
  · have : ((spl 32 l).map strB).length = (spl 32 l).tail.length + 1 := by rw [List.length_map, htl]
    rw [List.take_of_length_le (by rw [List.length_drop]; omega), Nat.zero_add, List.getElem?_drop, List.getElem?_map, show (1 : Int).toNat + k = k + 1 by rw [show (1 : Int).toNat = 1 from rfl]; omega]
    conv => lhs; rw [hhd]
    rfl
  · exact fin_ok (fun g hg => impl_IsEventGraph_ok hg) _ _ (by rw [List.length_map]; omega)

theorem numI_of {u : Nat} (h : u ≤ 1000000) : numI (Lib.decDigits u) = ((u : Int), true) := by
  unfold numI
  rw [pI_digits h]
  simp only
  rw [if_pos (by rw [itoa_pos (by omega), Int.toNat_natCast])]
theorem numI_is {w : List UInt8} (h : (numI w).2 = true) : w = Lib.itoa (numI w).1 := by
  unfold numI at h ⊢
  split
  · rename_i v hv
    rw [hv] at h
    simp only at h
    by_cases e : Lib.itoa v = w
    · rw [if_pos e]; exact e.symm
    · rw [if_neg e] at h; cases h
  · rename_i hn
    split at h
    · rename_i v hv; exact absurd hv (hn v)
    · cases h
theorem numI_is0 (w : List UInt8) (h : (numI w).2 = true) (h0 : 0 ≤ (numI w).1) : w = Lib.decDigits (numI w).1.toNat := by
  conv => lhs; rw [numI_is h, itoa_pos h0]
theorem numI_nil : (numI []).2 = false := rfl
theorem digP_of {u : Nat} (h : u ≤ 1000000) : digP (Lib.decDigits u) = ((u : Int), true) := by
  unfold digP
  have h1 := digits_pos u
  have h2 := digits_le 9 u (by omega)
  rw [if_neg (by omega), if_pos (digits_all u), digV_digits, decide_eq_true rfl]
theorem digP_is (w : List UInt8) (h : (digP w).2 = true) (_ : 0 ≤ (digP w).1) : w = Lib.decDigits (digP w).1.toNat := by
  unfold digP at h ⊢
  by_cases h1 : w.length < 1 ∨ 10 < w.length
  · rw [if_pos h1] at h; cases h
  · rw [if_neg h1] at h ⊢
    by_cases h2 : w.all isDig = true
    · rw [if_pos h2] at h ⊢
      have := of_decide_eq_true h
      simp only [Int.toNat_natCast]
      exact this.symm
    · rw [if_neg h2] at h; cases h
theorem sgnP_of {u : Nat} (h : u ≤ 1000000) : sgnP (Lib.decDigits u) = ((u : Int), true) := by
  unfold sgnP
  rw [if_neg, digP_of h]
  intro e
  have h1 := digits_pos u
  cases hd : Lib.decDigits u with
  | nil => rw [hd] at h1; simp at h1
  | cons b t =>
    rw [hd] at e
    have e := Option.some.inj e
    have := digits_mem (u := u) (b := b) (by rw [hd]; simp)
    rw [e] at this
    have : (45 : UInt8).toNat = 45 := rfl
    omega
theorem sgnP_is (w : List UInt8) (h : (sgnP w).2 = true) (h0 : 0 ≤ (sgnP w).1) : w = Lib.decDigits (sgnP w).1.toNat := by
  unfold sgnP at h h0 ⊢
  by_cases e : w.head? = some 45
  · rw [if_pos e] at h h0
    simp only [Bool.and_eq_true, decide_eq_true_eq] at h h0
    omega
  · rw [if_neg e] at h h0 ⊢
    exact digP_is w h h0
/-- places whose numbers are small -/
def goodP (p : TPlace) : Prop := (0 ≤ p.From ∧ p.From ≤ 1000000) ∧ (0 ≤ p.To ∧ p.To ≤ 1000000) ∧ (0 ≤ p.Delay ∧ p.Delay ≤ 1000000) ∧ (0 ≤ p.Tokens ∧ p.Tokens ≤ 1000000)
def nonP (p : TPlace) : Prop := 0 ≤ p.From ∧ 0 ≤ p.To ∧ 0 ≤ p.Delay ∧ 0 ≤ p.Tokens
theorem plT_form (p : TPlace) : plT p = Lib.decDigits p.From.toNat ++ 62 :: (Lib.decDigits p.To.toNat ++ 58 :: (Lib.decDigits p.Delay.toNat ++ 42 :: Lib.decDigits p.Tokens.toNat)) := by
  simp [plT]
theorem val_of {f : List UInt8 → Int × Bool} (H : ∀ u : Nat, u ≤ 1000000 → f (Lib.decDigits u) = ((u : Int), true)) {v : Int} (h : 0 ≤ v ∧ v ≤ 1000000) : f (Lib.decDigits v.toNat) = (v, true) := by
  rw [H v.toNat (by omega)]
  have : ((v.toNat : Nat) : Int) = v := by omega
  rw [this]
theorem plI_of (p : TPlace) (h : goodP p) : plI (plT p) = (p, true) := by
  obtain ⟨h1, h2, h3, h4⟩ := h
  unfold plI
  rw [plT_form]
  simp only [cut_at _ (digits_not (c := 62) (.inr (by decide))), cut_at _ (digits_not (c := 58) (.inr (by decide))), cut_at _ (digits_not (c := 42) (.inl (by decide))), val_of (fun u hu => numI_of hu) h1, val_of (fun u hu => numI_of hu) h2, val_of (fun u hu => numI_of hu) h3, val_of (fun u hu => numI_of hu) h4, if_true]
theorem cut_nil (c : UInt8) : Lib.cut [] [c] = ([], [], false) := cut_no (by simp)
theorem cut_is {c : UInt8} {l : List UInt8} (h : (Lib.cut l [c]).2.1 ≠ []) : l = (Lib.cut l [c]).1 ++ c :: (Lib.cut l [c]).2.1 := by
  by_cases hc : c ∈ l
  · obtain ⟨a, t, ha, rfl⟩ := mem_part hc
    rw [cut_at t ha]
  · rw [cut_no hc] at h
    exact absurd rfl h
theorem plI_is (w : List UInt8) (h : (plI w).2 = true) (h0 : nonP (plI w).1) : w = plT (plI w).1 := by
  unfold plI at h h0 ⊢
  simp only at h h0 ⊢
  by_cases n1 : (numI (Lib.cut w [62]).1).2 = true
  · by_cases n2 : (numI (Lib.cut (Lib.cut w [62]).2.1 [58]).1).2 = true
    · by_cases n3 : (numI (Lib.cut (Lib.cut (Lib.cut w [62]).2.1 [58]).2.1 [42]).1).2 = true
      · by_cases n4 : (numI (Lib.cut (Lib.cut (Lib.cut w [62]).2.1 [58]).2.1 [42]).2.1).2 = true
        · rw [if_pos n1, if_pos n2, if_pos n3, if_pos n4] at h0 ⊢
          obtain ⟨p1, p2, p3, p4⟩ := h0
          simp only at p1 p2 p3 p4
          have e1 := numI_is0 _ n1 p1
          have e2 := numI_is0 _ n2 p2
          have e3 := numI_is0 _ n3 p3
          have e4 := numI_is0 _ n4 p4
          have ne : ∀ {l : List UInt8}, (numI l).2 = true → l ≠ [] := fun q e => by rw [e, numI_nil] at q; cases q
          have c3 := cut_is (ne n4)
          have c2 := cut_is (c := 58) (l := (Lib.cut w [62]).2.1) (fun e => by rw [e, cut_nil] at n4; rw [numI_nil] at n4; cases n4)
          have c1 := cut_is (c := 62) (l := w) (fun e => by rw [e, cut_nil] at n2; rw [numI_nil] at n2; cases n2)
          rw [plT_form]
          simp only
          rw [← e1, ← e2, ← e3, ← e4, ← c3, ← c2, ← c1]
        · rw [if_pos n1, if_pos n2, if_pos n3, if_neg n4] at h; cases h
      · rw [if_pos n1, if_pos n2, if_neg n3] at h; cases h
    · rw [if_pos n1, if_neg n2] at h; cases h
  · rw [if_neg n1] at h; cases h
theorem not_tail {c d : UInt8} {u : Nat} {t : List UInt8} (hc : c.toNat < 48 ∨ 57 < c.toNat) (hd : c ≠ d) (ht : c ∉ t) : c ∉ Lib.decDigits u ++ d :: t := by
  simp only [List.mem_append, List.mem_cons, not_or]
  exact ⟨digits_not hc, hd, ht⟩
theorem l11P_of (p : TPlace) (h : goodP p) : l11P (plT p) = (p, true) := by
  obtain ⟨h1, h2, h3, h4⟩ := h
  have e3 : spl 42 (Lib.decDigits p.Delay.toNat ++ 42 :: Lib.decDigits p.Tokens.toNat) = [Lib.decDigits p.Delay.toNat, Lib.decDigits p.Tokens.toNat] := by
    rw [spl_app _ (digits_not (.inl (by decide))), spl_no (digits_not (.inl (by decide)))]
  have e2 : spl 58 (Lib.decDigits p.To.toNat ++ 58 :: (Lib.decDigits p.Delay.toNat ++ 42 :: Lib.decDigits p.Tokens.toNat)) = [Lib.decDigits p.To.toNat, Lib.decDigits p.Delay.toNat ++ 42 :: Lib.decDigits p.Tokens.toNat] := by
    rw [spl_app _ (digits_not (.inr (by decide))), spl_no (not_tail (.inr (by decide)) (by decide) (digits_not (.inr (by decide))))]
  have e1 : spl 62 (plT p) = [Lib.decDigits p.From.toNat, Lib.decDigits p.To.toNat ++ 58 :: (Lib.decDigits p.Delay.toNat ++ 42 :: Lib.decDigits p.Tokens.toNat)] := by
    rw [plT_form, spl_app _ (digits_not (.inr (by decide))), spl_no (not_tail (.inr (by decide)) (by decide) (not_tail (.inr (by decide)) (by decide) (digits_not (.inr (by decide)))))]
  unfold l11P
  rw [e1]
  simp only
  rw [e2]
  simp only
  rw [e3]
  unfold numsP
  simp only [List.all_cons, List.all_nil, List.map_cons, List.map_nil, val_of (fun u hu => sgnP_of hu) h1, val_of (fun u hu => sgnP_of hu) h2, val_of (fun u hu => sgnP_of hu) h3, val_of (fun u hu => sgnP_of hu) h4, Bool.and_self, if_true]
  rfl
theorem spl_two {c : UInt8} {l a b : List UInt8} (h : spl c l = [a, b]) : l = a ++ c :: b := by
  have := spl_join c l
  rw [h] at this
  simpa using this.symm
theorem fourP_is {r : List Int × Bool} (h : (fourP r).2 = true) : ∃ a b c d, r = ([a, b, c, d], true) ∧ fourP r = (⟨a, b, c, d⟩, true) := by
  unfold fourP at h ⊢
  split at h
  · rename_i a b c d; exact ⟨a, b, c, d, rfl, rfl⟩
  · cases h
theorem l11P_two {w a r b t : List UInt8} (e1 : spl 62 w = [a, r]) (e2 : spl 58 r = [b, t]) : l11P w = fourP (numsP (a :: b :: spl 42 t)) := by
  unfold l11P
  rw [e1]
  simp only
  rw [e2]
theorem l11P_one {w a r : List UInt8} (e1 : spl 62 w = [a, r]) (hne : (spl 58 r).length ≠ 2) : l11P w = (noPl, false) := by
  unfold l11P
  rw [e1]
  simp only
  split
  · rename_i h; rw [h] at hne; simp at hne
  · rfl
theorem l11P_none {w : List UInt8} (hne : (spl 62 w).length ≠ 2) : l11P w = (noPl, false) := by
  unfold l11P
  split
  · rename_i h; rw [h] at hne; simp at hne
  · rfl
theorem l11P_is (w : List UInt8) (h : (l11P w).2 = true) (h0 : nonP (l11P w).1) : w = plT (l11P w).1 := by
  rcases two_or (spl 62 w) with ⟨a, r, e1⟩ | hne
  · rcases two_or (spl 58 r) with ⟨b, t, e2⟩ | hne
    · rw [l11P_two e1 e2] at h h0 ⊢
      obtain ⟨v0, v1, v2, v3, en, ef⟩ := fourP_is h
      rw [ef] at h0 ⊢
      obtain ⟨p1, p2, p3, p4⟩ := h0
      simp only at p1 p2 p3 p4
      unfold numsP at en
      split at en
      · rename_i ha
        simp only [Prod.mk.injEq, and_true] at en
        rw [List.map_cons, List.map_cons] at en
        obtain ⟨c, d, e3⟩ : ∃ c d, spl 42 t = [c, d] := by
          have hl := congrArg List.length en
          simp only [List.length_cons, List.length_map, List.length_nil] at hl
          rcases two_or (spl 42 t) with h | h
          · exact h
          · omega
        rw [e3] at en ha
        simp only [List.map_cons, List.map_nil, List.cons.injEq, and_true] at en
        obtain ⟨q0, q1, q2, q3⟩ := en
        simp only [List.all_cons, List.all_nil, Bool.and_true, Bool.and_eq_true] at ha
        obtain ⟨s0, s1, s2, s3⟩ := ha
        subst q0 q1 q2 q3
        have e0 := sgnP_is a s0 p1
        have e1' := sgnP_is b s1 p2
        have e2' := sgnP_is c s2 p3
        have e3' := sgnP_is d s3 p4
        rw [plT_form]
        simp only
        rw [← e0, ← e1', ← e2', ← e3', ← spl_two e3, ← spl_two e2, ← spl_two e1]
      · cases en
    · rw [l11P_one e1 hne] at h; cases h
  · rw [l11P_none hne] at h; cases h
/-- l is the text of g -/
def Rdg (l : List UInt8) (g : TGraph) : Prop := graphB g = true ∧ (spl 32 l).headD [] = Lib.decDigits g.Events.toNat ∧ (spl 32 l).tail = g.Places.map plT
theorem goodP_of {e : Int} {p : TPlace} (h : PlG e p) : goodP p := by
  obtain ⟨a, b, c, d⟩ := h
  exact ⟨by omega, by omega, by omega, by omega⟩
theorem finG_cases (e : Int × Bool) (ps : List (TPlace × Bool)) : ((finG e ps).2 = false ∧ finG e ps = (⟨0, []⟩, false)) ∨ (finG e ps = (⟨e.1, ps.map (·.1)⟩, true) ∧ e.2 = true ∧ ps.all (·.2) = true ∧ graphB ⟨e.1, ps.map (·.1)⟩ = true) := by
  unfold finG
  split
  · rename_i h
    simp only [Bool.and_eq_true] at h
    exact .inr ⟨rfl, h.1.1, h.1.2, h.2⟩
  · exact .inl ⟨rfl, rfl⟩
section
variable {nf : List UInt8 → Int × Bool} {f : List UInt8 → TPlace × Bool}
theorem fin_of (N1 : ∀ u : Nat, u ≤ 1000000 → nf (Lib.decDigits u) = ((u : Int), true)) (F1 : ∀ p, goodP p → f (plT p) = (p, true)) {l : List UInt8} {g : TGraph} (h : Rdg l g) :
    finG (nf ((spl 32 l).headD [])) ((spl 32 l).tail.map f) = (g, true) := by
  obtain ⟨hg, h1, h2⟩ := h
  obtain ⟨he, hl, hp⟩ := graph_good hg
  have e2 : (g.Places.map plT).map f = g.Places.map fun p => (p, true) := by
    rw [List.map_map]
    exact List.map_congr_left fun p hp' => F1 p (goodP_of (hp p hp'))
  rw [h1, h2, e2, val_of N1 (by omega)]
  have e3 : (g.Places.map fun p => (p, true)).map (·.1) = g.Places := by rw [List.map_map]; exact List.map_id _
  have e4 : (g.Places.map fun p => (p, true)).all (·.2) = true := by simp
  unfold finG
  rw [e3, e4, hg]
  rfl
theorem fin_is (N2 : ∀ w, (nf w).2 = true → 0 ≤ (nf w).1 → w = Lib.decDigits (nf w).1.toNat) (F2 : ∀ w, (f w).2 = true → nonP (f w).1 → w = plT (f w).1) {l : List UInt8} {g : TGraph}
    (h : finG (nf ((spl 32 l).headD [])) ((spl 32 l).tail.map f) = (g, true)) : Rdg l g := by
  rcases finG_cases (nf ((spl 32 l).headD [])) ((spl 32 l).tail.map f) with ⟨h1, _⟩ | ⟨h1, h2, h3, h4⟩
  · rw [h] at h1; cases h1
  · rw [h] at h1
    obtain rfl := (Prod.mk.inj h1).1
    obtain ⟨he, hl, hp⟩ := graph_good h4
    simp only at he hp
    refine ⟨h4, N2 _ h2 (by omega), ?_⟩
    show (spl 32 l).tail = (((spl 32 l).tail.map f).map (·.1)).map plT
    rw [List.map_map, List.map_map]
    conv => lhs; rw [← List.map_id (spl 32 l).tail]
    refine List.map_congr_left fun w hw => ?_
    have hpw := hp (f w).1 (List.mem_map.2 ⟨f w, List.mem_map.2 ⟨w, hw, rfl⟩, rfl⟩)
    have hok := List.all_eq_true.1 h3 (f w) (List.mem_map.2 ⟨w, hw, rfl⟩)
    obtain ⟨a, b, c, d⟩ := hpw
    exact F2 w hok ⟨by omega, by omega, by omega, by omega⟩
end
theorem spec_of {l : List UInt8} {g : TGraph} (h : Rdg l g) : specR l = (g, true) := fin_of (fun u hu => digP_of hu) l11P_of h
theorem spec_is {l : List UInt8} {g : TGraph} (h : specR l = (g, true)) : Rdg l g := fin_is digP_is l11P_is h
theorem impl_of {l : List UInt8} {g : TGraph} (h : Rdg l g) : implR l = (g, true) := fin_of (fun u hu => numI_of hu) plI_of h
theorem impl_is {l : List UInt8} {g : TGraph} (h : implR l = (g, true)) : Rdg l g := fin_is numI_is0 plI_is h
theorem read_same (l : List UInt8) : implR l = specR l := by
  rcases finG_cases (digP ((spl 32 l).headD [])) ((spl 32 l).tail.map l11P) with ⟨_, h2⟩ | ⟨h1, _⟩
  · rcases finG_cases (numI ((spl 32 l).headD [])) ((spl 32 l).tail.map plI) with ⟨_, h4⟩ | ⟨h3, _⟩
    · exact h4.trans h2.symm
    · have := spec_of (impl_is h3)
      rw [show specR l = _ from h2] at this
      exact absurd (Prod.mk.inj this).2 (by simp)
  · rw [impl_of (spec_is h1)]
    exact h1.symm
theorem read_cases (l : List UInt8) : (specR l = (⟨0, []⟩, false) ∧ ∀ g, ¬ Rdg l g) ∨ ∃ g, specR l = (g, true) ∧ Rdg l g := by
  rcases finG_cases (digP ((spl 32 l).headD [])) ((spl 32 l).tail.map l11P) with ⟨h1, h2⟩ | ⟨h1, _⟩
  · refine .inl ⟨h2, fun g hg => ?_⟩
    have := (spec_of hg).symm.trans h2
    exact absurd (Prod.mk.inj this).2 (by simp)
  · exact .inr ⟨_, h1, spec_is h1⟩
theorem read_small (l : List UInt8) : smG (specR l).1 := by
  rcases read_cases l with ⟨h, _⟩ | ⟨g, h, hg, _⟩
  · rw [h]; simp [smG, smP]
  · rw [h]
    obtain ⟨_, hl, _⟩ := graph_good hg
    simp only [smG, smP]; omega
theorem FnExactReadGraph_ok (aS : ByteArray) (_gaS : aS.size ≤ 9223372036854775807) : M.Conv (laws_FnExactReadGraph aS) true := by
  unfold laws_FnExactReadGraph
  obtain ⟨l, rfl⟩ : ∃ l, aS = strB l := ⟨_, (strB_data aS).symm⟩
  refine M.Conv_ite (fun _ => M.Conv_ret _) (fun q => ?_)
  have hl : l.length ≤ 10000000 := by
    have := of_decide_eq_false q
    rw [strB_size] at this
    omega
  have hS := spec_ReadGraph_ok hl
  have hI := impl_ReadGraph_ok hl
  rw [read_same] at hI
  have hw := read_small l
  generalize specR l = w at hS hI hw
  refine M.Conv_bind hS (M.Conv_bind hI (M.Conv_bind (eqG_refl hw) (M.Conv_ite (fun q => ?_) (fun _ => ?_))))
  · exfalso; revert q; simp
  obtain ⟨k1, mk1, hmk1, lek1, gek1, _, hek1⟩ := markG_ok hw _ (show (0 : Int) ≤ 1 by omega) (by omega)
  have hh := heldG_of (e := w.1.Events) (show (0 : Int) ≤ 1 by omega) lek1 hek1
  refine M.Conv_bind hmk1 (M.Conv_bind hh (M.Conv_ite (fun q => ?_) (fun _ => M.Conv_ite (fun q => ?_) (fun _ => ?_))))
  · exfalso; revert q; simp; omega
  · exfalso; revert q; simp
  refine M.Conv_bind hI (M.Conv_bind (eqG_refl hw) (M.Conv_ite (fun q => ?_) (fun _ => ?_)))
  · exfalso; revert q; simp
  refine M.Conv_bind hh (M.Conv_ite (fun q => ?_) (fun _ => M.Conv_ite (fun q => ?_) (fun _ => M.Conv_ret _)))
  · exfalso; revert q; simp; omega
  · exfalso; revert q; simp

end Go.Proofs.YtfhphkiggdepaaaDoor
