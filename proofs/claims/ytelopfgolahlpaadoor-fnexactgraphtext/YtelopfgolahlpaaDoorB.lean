/-
  Plain proofs: the plain program of the law ends with true.
  Conditions: None beyond the given statement.
-/
import Derived.Test.YtelopfgolahlpaaDoorP
namespace Go.Proofs.YtelopfgolahlpaaDoor
open Go
/-! ### plain programs: loops over a list -/
namespace M
variable {α β σ ρ : Type}
/-- rounds over the elements of a list, each with its place; a round may leave -/
def run (g : Nat → α → σ → σ ⊕ ρ) (fin : σ → ρ) : Nat → List α → σ → ρ
  | _, [], s => fin s
  | i, x :: xs, s => match g i x s with
    | .inl s' => run g fin (i + 1) xs s'
    | .inr r => r
theorem Conv_forN {l : List α} {f : Int → σ → M (σ ⊕ ρ)} (g : Nat → α → σ → σ ⊕ ρ) (fin : σ → ρ) (I : Nat → σ → Prop) (hi : Int) :
    ∀ (xs : List α) (i : Nat) (s : σ), hi = (i + xs.length : Nat) → I i s → (∀ (j : Nat) x s, xs[j]? = some x → I (i + j) s → Conv (f (i + j : Nat) s) (g (i + j) x s) ∧ ∀ s', g (i + j) x s = .inl s' → I (i + j + 1) s') →
      ∃ N, ∀ n, N ≤ n → forN hi fin f n xs.length i s = some (run g fin i xs s)
  | [], i, s, hh, _, _ => ⟨0, fun n _ => by
      have : ¬ (i : Int) < hi := by rw [hh]; simp
      simp [forN, run, this]⟩
  | x :: xs, i, s, hh, h0, H => by
    have hlt : (i : Int) < hi := by rw [hh]; simp; omega
    obtain ⟨⟨N, hN⟩, hI⟩ := H 0 x s rfl h0
    simp only [Nat.add_zero] at hN hI
    cases hg : g i x s with
    | inl s' =>
      have hi' := hI s' hg
      obtain ⟨N', hN'⟩ := Conv_forN (l := l) g fin I hi xs (i + 1) s' (by rw [hh, List.length_cons]; congr 1; omega) hi' (fun j y s hy hIs => by
        have := H (j + 1) y s (by simpa using hy) (by rw [← Nat.add_assoc, Nat.add_right_comm]; exact hIs)
        rw [show i + (j + 1) = i + 1 + j by omega] at this
        exact this)
      refine ⟨max N N', fun n hn => ?_⟩
      have h1 := hN n (by omega)
      rw [hg] at h1
      simp only [List.length_cons, forN, hlt, decide_true, cond_true, h1, run, hg]
      have := hN' n (by omega)
      simpa using this
    | inr r =>
      refine ⟨N, fun n hn => ?_⟩
      have h1 := hN n hn
      rw [hg] at h1
      simp only [List.length_cons, forN, hlt, decide_true, cond_true, h1, run, hg]
/-- a loop over a list, with an invariant -/
theorem Conv_forI {l : List α} {f : Int → σ → M (σ ⊕ ρ)} {fin : σ → ρ} {s : σ} (g : Nat → α → σ → σ ⊕ ρ) (I : Nat → σ → Prop) (hl : l.length ≤ 9223372036854775807) (h0 : I 0 s)
    (H : ∀ (i : Nat) x s, l[i]? = some x → I i s → Conv (f i s) (g i x s) ∧ ∀ s', g i x s = .inl s' → I (i + 1) s') : Conv (forI 0 (l.length : Int) fin f s) (run g fin 0 l s) := by
  obtain ⟨N, hN⟩ := Conv_forN (l := l) (f := f) g fin I (l.length : Int) l 0 s (by simp) h0 (fun j x s hx hI => by simpa using H j x s hx (by simpa using hI))
  refine ⟨N, fun n hn => ?_⟩
  have h1 : (l.length : Int) ≤ 9223372036854775807 := by omega
  simp only [forI, h1, decide_true, Bool.and_true, show (-9223372036854775808 : Int) ≤ 0 by decide, cond_true]
  have := hN n hn
  simpa using this
/-- .. without one -/
theorem Conv_forL {l : List α} {f : Int → σ → M (σ ⊕ ρ)} {fin : σ → ρ} {s : σ} (g : Nat → α → σ → σ ⊕ ρ) (hl : l.length ≤ 9223372036854775807)
    (H : ∀ (i : Nat) x s, l[i]? = some x → Conv (f i s) (g i x s)) : Conv (forI 0 (l.length : Int) fin f s) (run g fin 0 l s) :=
  Conv_forI g (fun _ _ => True) hl trivial fun i x s hx _ => ⟨H i x s hx, fun _ _ => trivial⟩
theorem Conv.of {m : M α} {r r' : α} (h : Conv m r) (e : r = r') : Conv m r' := e ▸ h
theorem Conv_ite {b : Bool} {x y : M α} {r : α} (h1 : b = true → Conv x r) (h2 : b = false → Conv y r) : Conv (ite b x y) r := by
  cases b
  · exact h2 rfl
  · exact h1 rfl
theorem Conv_ite2 {b : Bool} {x y : M α} {r s : α} (h1 : b = true → Conv x r) (h2 : b = false → Conv y s) : Conv (ite b x y) (bif b then r else s) := by
  cases b
  · exact h2 rfl
  · exact h1 rfl
theorem Conv_guard {b : Bool} (h : b = true) : Conv (guard b) () := ⟨0, fun _ _ => by simp [guard, h]⟩
theorem Conv_upd {l : List α} {i : Nat} {x : α} (h : i < l.length) : Conv (upd l i x) (l.set i x) := ⟨0, fun _ _ => by simp [upd, h]⟩
theorem Conv_get {l : List α} {i : Int} {x : α} (h0 : 0 ≤ i) (h : l[i.toNat]? = some x) : Conv (idx l i) x := ⟨0, fun _ _ => by simp [idx, h0, h]⟩
/-- a value told in both ways of a test, then the rest -/
theorem Conv_bite {b : Bool} {x y : M α} {f : α → M β} {u v : α} {r : β} (h1 : b = true → Conv x u) (h2 : b = false → Conv y v) (g : Conv (f (bif b then u else v)) r) : Conv (bind (ite b x y) f) r :=
  Conv_bind (Conv_ite2 h1 h2) g

/-! searches: a loop that leaves at the first element of a kind -/
theorem run_all (p : α → Bool) (u : Unit ⊕ ρ) : ∀ (i : Nat) (l : List α), run (ρ := Unit ⊕ ρ) (fun _ x _ => bif p x then .inl () else .inr u) (fun s => .inl s) i l () = bif l.all p then .inl () else u
  | _, [] => rfl
  | i, x :: xs => by
    simp only [run, List.all_cons]
    cases p x
    · rfl
    · simpa using run_all p u (i + 1) xs
/-- 'for .. if not p x, return v' -/
theorem Conv_all {l : List α} {f : Int → Unit → M (Unit ⊕ (Unit ⊕ ρ))} (p : α → Bool) (v : ρ) (hl : l.length ≤ 9223372036854775807) (H : ∀ (i : Nat) x, l[i]? = some x → Conv (f i ()) (bif p x then .inl () else .inr (.inr v))) :
    Conv (forI 0 (l.length : Int) (fun s => .inl s) f ()) (bif l.all p then .inl () else .inr v) :=
  (Conv_forL (fun _ x _ => bif p x then .inl () else .inr (.inr v)) hl fun i x _ hx => H i x hx).of (run_all p (.inr v) 0 l)
/-- the same, where the element's place matters to the test -/
theorem run_allI (p : Nat → α → Bool) (u : Unit ⊕ ρ) : ∀ (i : Nat) (l : List α), run (ρ := Unit ⊕ ρ) (fun j x _ => bif p j x then .inl () else .inr u) (fun s => .inl s) i l () = bif (l.zipIdx i).all (fun q => p q.2 q.1) then .inl () else u
  | _, [] => rfl
  | i, x :: xs => by
    simp only [run, List.zipIdx_cons, List.all_cons]
    cases p i x
    · rfl
    · simpa using run_allI p u (i + 1) xs
theorem Conv_allI {l : List α} {f : Int → Unit → M (Unit ⊕ (Unit ⊕ ρ))} (p : Nat → α → Bool) (v : ρ) (hl : l.length ≤ 9223372036854775807) (H : ∀ (i : Nat) x, l[i]? = some x → Conv (f i ()) (bif p i x then .inl () else .inr (.inr v))) :
    Conv (forI 0 (l.length : Int) (fun s => .inl s) f ()) (bif (l.zipIdx 0).all (fun q => p q.2 q.1) then .inl () else .inr v) :=
  (Conv_forL (fun j x _ => bif p j x then .inl () else .inr (.inr v)) hl fun i x _ hx => H i x hx).of (run_allI p (.inr v) 0 l)
/-- 'for i .. if p x, return i' -/
theorem run_find (p : α → Bool) : ∀ (i : Nat) (l : List α), run (σ := Unit) (ρ := Unit ⊕ Int) (fun j x _ => bif p x then .inr (.inr (j : Int)) else .inl ()) (fun s => .inl s) i l () = match l.findIdx? p with
    | some j => .inr ((i + j : Nat) : Int)
    | none => .inl ()
  | _, [] => rfl
  | i, x :: xs => by
    simp only [run, List.findIdx?_cons]
    cases hp : p x
    · simp only [cond_false, run_find p (i + 1) xs, Bool.false_eq_true, if_false]
      cases xs.findIdx? p with
      | none => rfl
      | some j => simp only [Option.map_some]; congr 2; omega
    · simp
theorem Conv_find {l : List α} {f : Int → Unit → M (Unit ⊕ (Unit ⊕ Int))} (p : α → Bool) (hl : l.length ≤ 9223372036854775807) (H : ∀ (i : Nat) x, l[i]? = some x → Conv (f i ()) (bif p x then .inr (.inr (i : Int)) else .inl ())) :
    Conv (forI 0 (l.length : Int) (fun s => .inl s) f ()) (match l.findIdx? p with | some j => .inr (j : Int) | none => .inl ()) :=
  (Conv_forL (fun j x _ => bif p x then .inr (.inr (j : Int)) else .inl ()) hl fun i x _ hx => H i x hx).of (by rw [run_find]; simp)
/-- sums: each round turns what has been gathered -/
theorem run_fold (g : σ → α → σ) : ∀ (i : Nat) (l : List α) (s : σ), run (fun _ x s => .inl (g s x)) (fun s => s) i l s = l.foldl g s
  | _, [], _ => rfl
  | i, x :: xs, s => by simpa [run] using run_fold g (i + 1) xs (g s x)
theorem Conv_fold {l : List α} {f : Int → σ → M (σ ⊕ σ)} {s : σ} (g : σ → α → σ) (hl : l.length ≤ 9223372036854775807) (H : ∀ (i : Nat) x s, l[i]? = some x → Conv (f i s) (.inl (g s x))) :
    Conv (forI 0 (l.length : Int) (fun s => s) f s) (l.foldl g s) :=
  (Conv_forL (fun _ x s => .inl (g s x)) hl fun i x s hx => H i x s hx).of (run_fold g 0 l s)
theorem get_set_append {l r : List α} {x y : α} : (l ++ y :: r).set l.length x = l ++ x :: r := by simp
/-- a loop that fills a list of the same length, element by element -/
theorem run_fill (g : Nat → α → β) (z : β) : ∀ (i : Nat) (l : List α) (d : List β), d.length = i →
    run (fun j x s => .inl (s.set j (g j x))) (fun s => s) i l (d ++ List.replicate l.length z) = d ++ (l.zipIdx i).map (fun q => g q.2 q.1)
  | _, [], d, _ => by simp [run]
  | i, x :: xs, d, hd => by
    subst hd
    simp only [run, List.length_cons, List.replicate_succ, get_set_append]
    have := run_fill g z (d.length + 1) xs (d ++ [g d.length x]) (by simp)
    simp only [List.append_assoc, List.singleton_append] at this
    rw [this]
    simp
theorem Conv_fill {l : List α} {f : Int → List β → M (List β ⊕ List β)} (g : Nat → α → β) (z : β) (hl : l.length ≤ 9223372036854775807)
    (H : ∀ (i : Nat) x s, l[i]? = some x → s.length = l.length → Conv (f i s) (.inl (s.set i (g i x)))) :
    Conv (forI 0 (l.length : Int) (fun s => s) f (List.replicate l.length z)) ((l.zipIdx 0).map (fun q => g q.2 q.1)) := by
  refine (Conv_forI (fun j x s => .inl (s.set j (g j x))) (fun _ s => s.length = l.length) hl (by simp) fun i x s hx hI => ⟨H i x s hx hI, fun s' e => ?_⟩).of ?_
  · cases e; simpa using hI
  · simpa using run_fill g z 0 l [] rfl
theorem zipIdx_map_fst {l : List α} {g : α → β} {i : Nat} : ((l.zipIdx i).map fun q => g q.1) = l.map g := by
  have h : List.map (g ∘ Prod.fst) (l.zipIdx i) = List.map g l := by rw [← List.map_map, List.zipIdx_map_fst]
  exact h
theorem findIdx_any {l : List α} {p : α → Bool} : (decide ((0:Int) ≤ match l.findIdx? p with | some j => (j : Int) | none => -1)) = l.any p := by
  cases h : l.findIdx? p with
  | none => rw [List.findIdx?_eq_none_iff] at h; simp; exact fun x hx => by simpa using h x hx
  | some j =>
    obtain ⟨hj, hp, _⟩ := List.findIdx?_eq_some_iff_getElem.1 h
    simp
    exact ⟨_, List.getElem_mem hj, hp⟩
end M

theorem spec_l01In_ok (x lo hi : Int) : M.Conv (spec_l01In x lo hi) (decide (lo ≤ x) && decide (x ≤ hi)) := M.Conv_ret _
theorem impl_within_ok (x lo hi : Int) : M.Conv (impl_within x lo hi) (decide (lo ≤ x) && decide (x ≤ hi)) := M.Conv_ret _
/-- 'slices.ContainsFunc', behind 'slices.IndexFunc' -/
theorem contains_ok {α : Type} {l : List α} {f : Int → Unit → M (Unit ⊕ (Unit ⊕ Int))} (p : α → Bool) (hl : l.length ≤ 9223372036854775807) (H : ∀ (i : Nat) x, l[i]? = some x → M.Conv (f i ()) (bif p x then .inr (.inr (i : Int)) else .inl ())) :
    M.Conv (M.bind (M.bind (M.forI 0 (l.length : Int) (fun s => .inl s) f ()) (fun x1 => M.cont x1 (fun _ => M.ret (-1)) (fun r => M.ret r))) (fun x1 => M.ret (decide (0 ≤ x1)))) (l.any p) := by
  rw [← M.findIdx_any]
  refine M.Conv_bind (M.Conv_bind (M.Conv_find p hl H) ?_) (M.Conv_ret _)
  cases l.findIdx? p <;> exact M.Conv_ret _
theorem any_not {α : Type} {l : List α} {p : α → Bool} : (!l.any fun x => !p x) = l.all p := by
  induction l with
  | nil => rfl
  | cons x xs ih => simp only [List.any_cons, List.all_cons, Bool.not_or, Bool.not_not, ih]
/-- two programs, one answer -/
def Two {α : Type} (m m' : M α) (Post : α → Prop) : Prop := ∃ r, M.Conv m r ∧ M.Conv m' r ∧ Post r
theorem Two.mk {α : Type} {m m' : M α} {Post : α → Prop} {r : α} (h : M.Conv m r) (h' : M.Conv m' r) (p : Post r) : Two m m' Post := ⟨r, h, h', p⟩
def okTPlace (p : TPlace) : Prop := inI64 p.From ∧ inI64 p.To ∧ inI64 p.Delay ∧ inI64 p.Tokens
def okTGraph (g : TGraph) : Prop := inI64 g.Events ∧ fitL okTPlace g.Places
def smP (l : List TPlace) : Prop := l.length ≤ 1099511627
def smG (g : TGraph) : Prop := smP g.Places
theorem szG_ok {g : TGraph} (h : okTGraph g) : ∃ z, M.Conv (laws_szEventGraph g 1048576) z ∧ (decide (z < 0) = false → smG g) := by
  have hl := h.2.1
  unfold laws_szEventGraph laws_szPlaceS
  have e : w64 (1048576 - (g.Places.length : Int)) = 1048576 - g.Places.length := w64_eq _ (by omega)
  rw [e]
  by_cases h1 : (1048576 : Int) - g.Places.length < 0
  · refine ⟨-1, M.Conv_bind (x := -1) (M.Conv_ite (fun _ => M.Conv_ret _) (fun q => by have := of_decide_eq_false q; omega)) (M.Conv_ite (fun _ => M.Conv_ret _) (fun q => by simp at q)), fun q => by simp at q⟩
  · refine ⟨1048576 - (g.Places.length : Int), M.Conv_bind (x := 1048576 - (g.Places.length : Int)) (M.Conv_ite (fun q => absurd (of_decide_eq_true q) h1) (fun _ => M.Conv_ret _)) (M.Conv_ite (fun q => absurd (of_decide_eq_true q) h1) (fun _ => M.Conv_ret _)), fun _ => ?_⟩
    simp only [smG, smP]; omega
theorem toPlace_ok {p : TPlace} : M.Conv (laws_toPlace p) p := M.Conv_ret _
theorem toPlaceS_ok {a : List TPlace} (h : smP a) : M.Conv (laws_toPlaceS a) a := by
  unfold smP at h
  unfold laws_toPlaceS
  refine M.Conv_bind (M.Conv_make (by omega) (by omega)) ?_
  refine M.Conv_bind (x := a) (((M.Conv_fill (l := a) (f := _) (fun _ x => x) _ (by omega) fun i x s hx hs => ?_)).of ?_) (M.Conv_ret _)
  · have hi := (List.getElem?_eq_some_iff.1 hx).1
    refine M.Conv_bind (M.Conv_get (by omega) (by simpa using hx)) (M.Conv_bind toPlace_ok ?_)
    refine M.Conv_bind (M.Conv_get (x := s[i]) (by omega) (by simp [show i < s.length by omega])) ?_
    exact M.Conv_bind (M.Conv_upd (by omega)) (M.Conv_ret _)
  · exact M.zipIdx_map_fst.trans (List.map_id' _)
theorem toG_ok {g : TGraph} (h : smG g) : M.Conv (laws_toEventGraph g) g := M.Conv_bind (toPlaceS_ok h) (M.Conv_ret _)
theorem eqPlace_refl {p : TPlace} : M.Conv (laws_eqPlace p p) true := by
  unfold laws_eqPlace
  refine M.Conv_ite (fun q => by simp at q) (fun _ => M.Conv_ite (fun q => by simp at q) (fun _ => M.Conv_ite (fun q => by simp at q) (fun _ => M.Conv_ite (fun q => by simp at q) (fun _ => M.Conv_ret _))))
theorem eqPlaceS_refl {a : List TPlace} (h : smP a) : M.Conv (laws_eqPlaceS a a) true := by
  unfold smP at h
  unfold laws_eqPlaceS
  refine M.Conv_ite (fun q => by simp at q) (fun _ => M.Conv_bind (M.Conv_all (fun _ => true) false (by omega) fun i x hx => ?_) ?_)
  case refine_2 => rw [show (a.all fun _ => true) = true by simp]; exact M.Conv_ret _
  have hg : M.Conv (M.idx a i) x := M.Conv_get (by omega) (by simpa using hx)
  exact M.Conv_bind hg (M.Conv_bind hg (M.Conv_bind eqPlace_refl (M.Conv_ite (fun q => by simp at q) (fun _ => M.Conv_ret _))))
theorem eqG_refl {g : TGraph} (h : smG g) : M.Conv (laws_eqEventGraph g g) true := by
  unfold laws_eqEventGraph
  refine M.Conv_ite (fun q => by simp at q) (fun _ => M.Conv_bind (eqPlaceS_refl h) (M.Conv_ite (fun q => by simp at q) (fun _ => M.Conv_ret _)))
theorem Conv_and {b v : Bool} {m : M Bool} (h : b = true → M.Conv m v) : M.Conv (M.ite b (M.bind m (fun x => M.ret x)) (M.ret false)) (b && v) := by
  refine M.Conv_ite (fun q => ?_) (fun q => ?_)
  · rw [q]; exact M.Conv_bind (h q) (M.Conv_ret _)
  · rw [q]; exact M.Conv_ret _
def inB (x lo hi : Int) : Bool := decide (lo ≤ x) && decide (x ≤ hi)
def placeB (e : Int) (p : TPlace) : Bool := ((inB p.From 0 (w64 (e - 1)) && inB p.To 0 (w64 (e - 1))) && inB p.Delay 0 1000) && inB p.Tokens 0 5
theorem spec_l11Place_ok (p : TPlace) (e : Int) : M.Conv (spec_l11Place p e) (placeB e p) :=
  M.Conv_bind (spec_l01In_ok _ _ _) (M.Conv_bind (Conv_and fun _ => spec_l01In_ok _ _ _) (M.Conv_bind (Conv_and fun _ => spec_l01In_ok _ _ _) (M.Conv_bind (Conv_and fun _ => spec_l01In_ok _ _ _) (M.Conv_ret _))))
theorem impl_isEvent_ok (g : TGraph) (e : Int) : M.Conv (impl_isEvent g e) (inB e 0 (w64 (g.Events - 1))) := M.Conv_bind (impl_within_ok _ _ _) (M.Conv_ret _)
theorem impl_isPlace_ok (g : TGraph) (p : TPlace) : M.Conv (impl_isPlace g p) (placeB g.Events p) :=
  M.Conv_bind (impl_isEvent_ok _ _) (M.Conv_bind (Conv_and fun _ => impl_isEvent_ok _ _) (M.Conv_bind (Conv_and fun _ => impl_within_ok _ _ _) (M.Conv_bind (Conv_and fun _ => impl_within_ok _ _ _) (M.Conv_ret _))))
def graphB (g : TGraph) : Bool := (inB g.Events 1 10 && decide (g.Places.length ≤ 30)) && g.Places.all (placeB g.Events)
/-- 'for i < len(l)', the counter a variable; a round may leave -/
def runO {α ρ : Type} (g : Nat → α → Option ρ) (e : ρ) : Nat → List α → ρ
  | _, [] => e
  | i, x :: xs => match g i x with | none => runO g e (i + 1) xs | some r => r
theorem Conv_while {α ρ : Type} {l : List α} {f : Int → M (Int ⊕ ρ)} (g : Nat → α → Option ρ) (e : ρ) (step : ∀ (i : Nat) x, l[i]? = some x → M.Conv (f i) (match g i x with | none => .inl ((i : Int) + 1) | some r => .inr r)) (stop : M.Conv (f (l.length : Int)) (.inr e)) :
    M.Conv (M.loop f 0) (runO g e 0 l) := by
  have key : ∀ (xs : List α) (i : Nat), (∀ (j : Nat) x, xs[j]? = some x → M.Conv (f (i + j : Nat)) (match g (i + j) x with | none => .inl (((i + j : Nat) : Int) + 1) | some r => .inr r)) → M.Conv (f (i + xs.length : Nat)) (.inr e) →
      ∃ N m0, ∀ n, N ≤ n → ∀ m, m0 ≤ m → M.loopN f n m (i : Int) = some (runO g e i xs) := by
    intro xs
    induction xs with
    | nil =>
      intro i _ ⟨N, h⟩
      refine ⟨N, 1, fun n hn m hm => ?_⟩
      obtain ⟨m, rfl⟩ : ∃ q, m = q + 1 := ⟨m - 1, by omega⟩
      have := h n hn
      simp only [List.length_nil, Nat.add_zero] at this
      simp [M.loopN, this, runO]
    | cons x xs ih =>
      intro i hs hst
      obtain ⟨N, h⟩ := hs 0 x rfl
      simp only [Nat.add_zero] at h
      cases hg : g i x with
      | none =>
        obtain ⟨N', m0, h'⟩ := ih (i + 1) (fun j y hy => by have := hs (j + 1) y (by simpa using hy); rw [show i + (j + 1) = i + 1 + j by omega] at this; exact this) (by rw [show i + 1 + xs.length = i + (x :: xs).length by simp; omega]; exact hst)
        refine ⟨max N N', m0 + 1, fun n hn m hm => ?_⟩
        obtain ⟨m, rfl⟩ : ∃ q, m = q + 1 := ⟨m - 1, by omega⟩
        have h1 := h n (by omega)
        rw [hg] at h1
        simp only [M.loopN, h1, runO, hg]
        exact h' n (by omega) m (by omega)
      | some r =>
        refine ⟨N, 1, fun n hn m hm => ?_⟩
        obtain ⟨m, rfl⟩ : ∃ q, m = q + 1 := ⟨m - 1, by omega⟩
        have h1 := h n hn
        rw [hg] at h1
        simp only [M.loopN, h1, runO, hg]
  obtain ⟨N, m0, h⟩ := key l 0 (fun j x hx => by simpa using step j x hx) (by simpa using stop)
  exact ⟨max N m0, fun n hn => h n (by omega) n (by omega)⟩
theorem runO_all {α ρ : Type} (p : α → Bool) (r e : ρ) : ∀ (l : List α) (i : Nat), runO (fun _ x => bif p x then none else some r) e i l = bif l.all p then e else r
  | [], _ => rfl
  | x :: xs, i => by
    simp only [runO, List.all_cons]
    cases p x with
    | true => simpa using runO_all p r e xs (i + 1)
    | false => rfl
theorem spec_IsEventGraph_ok {g : TGraph} (hl : g.Places.length ≤ 9223372036854775806) : M.Conv (spec_IsEventGraph g) (graphB g) := by
  unfold spec_IsEventGraph
  refine M.Conv_bind ((Conv_while (l := g.Places) (fun _ p => bif placeB g.Events p then none else some (.inr false)) (.inl (g.Places.length : Int)) (fun i p hp => ?_) ?_).of (runO_all _ _ _ _ _)) ?_
  · have hi := (List.getElem?_eq_some_iff.1 hp).1
    refine M.Conv_ite (fun _ => M.Conv_bind (M.Conv_get (by omega) (by simpa using hp)) (M.Conv_bind (spec_l11Place_ok _ _) (M.Conv_ite (fun q => ?_) (fun q => ?_)))) (fun q => by have := of_decide_eq_false q; omega)
    · simp only [Bool.not_eq_true'] at q; rw [q]; exact M.Conv_ret _
    · simp only [Bool.not_eq_false'] at q; rw [q]; exact (M.Conv_ret _).of (by rw [w64_eq _ (by omega)]; rfl)
  · exact M.Conv_ite (fun q => by have := of_decide_eq_true q; omega) (fun _ => M.Conv_ret _)
  · cases hb : g.Places.all (placeB g.Events) with
    | false => exact (M.Conv_ret _).of (by simp [graphB, hb])
    | true =>
      show M.Conv (M.bind (spec_l01In g.Events 1 10) (fun x4 => M.ret (x4 && (decide ((g.Places.length : Int) ≤ 30))))) _
      refine M.Conv_bind (spec_l01In_ok _ _ _) ((M.Conv_ret _).of ?_)
      simp only [graphB, hb, inB, Bool.and_true]
      rw [decide_eq_decide.2 (show (g.Places.length : Int) ≤ 30 ↔ g.Places.length ≤ 30 by omega)]
theorem impl_IsEventGraph_ok {g : TGraph} (hl : g.Places.length ≤ 9223372036854775806) : M.Conv (impl_IsEventGraph g) (graphB g) := by
  unfold impl_IsEventGraph slices_ContainsFunc_Place_F_impl_IsEventGraph_1 slices_IndexFunc_Place_F_impl_IsEventGraph_1
  refine M.Conv_bind (impl_within_ok _ _ _) (M.Conv_bind (x := graphB g) ?_ (M.Conv_ret _))
  have e : ((decide (1 ≤ g.Events) && decide (g.Events ≤ 10)) && decide ((g.Places.length : Int) ≤ 30)) = (inB g.Events 1 10 && decide (g.Places.length ≤ 30)) := by
    rw [decide_eq_decide.2 (show (g.Places.length : Int) ≤ 30 ↔ g.Places.length ≤ 30 by omega)]; rfl
  rw [e]
  refine M.Conv_ite (fun q => ?_) (fun q => (M.Conv_ret _).of (by simp [graphB, q]))
  refine M.Conv_bind (contains_ok (fun p => !placeB g.Events p) (by omega) fun i p hp => ?_) ((M.Conv_ret _).of ?_)
  · refine M.Conv_bind (M.Conv_get (by omega) (by simpa using hp)) (M.Conv_bind (x := !placeB g.Events p) (M.Conv_bind (impl_isPlace_ok _ _) (M.Conv_ret _)) ?_)
    cases placeB g.Events p <;> exact M.Conv_ret _
  · rw [any_not]; simp [graphB, q]
theorem Conv_forV {σ : Type} {n : Nat} {f : Int → σ → M (σ ⊕ σ)} (val : Nat → σ) (hn : n ≤ 9223372036854775807) (h : ∀ i, i < n → M.Conv (f i (val i)) (.inl (val (i + 1)))) : M.Conv (M.forI 0 (n : Int) (fun s => s) f (val 0)) (val n) := by
  have := M.Conv_forI (l := List.range n) (f := f) (fin := fun s => s) (s := val 0) (ρ := σ) (fun i _ _ => .inl (val (i + 1))) (fun i s => s = val i) (by simpa using hn) rfl (fun i x s hx hs => by
    subst hs
    have hi := (List.getElem?_eq_some_iff.1 hx).1
    exact ⟨h i (by simpa using hi), fun s' e => by cases e; rfl⟩)
  simp only [List.length_range] at this
  refine this.of ?_
  have run : ∀ (m i : Nat), M.run (σ := σ) (ρ := σ) (fun i (_ : Nat) _ => .inl (val (i + 1))) (fun s => s) i (List.range m) (val i) = val (i + m) := by
    have g : ∀ (l : List Nat) (i : Nat), M.run (σ := σ) (ρ := σ) (fun i (_ : Nat) _ => .inl (val (i + 1))) (fun s => s) i l (val i) = val (i + l.length) := by
      intro l
      induction l with
      | nil => intro i; rfl
      | cons x xs ih => intro i; simp only [M.run, List.length_cons]; rw [ih (i + 1)]; congr 1; omega
    intro m i
    rw [g, List.length_range]
  simpa using run n 0
namespace M
end M

section
variable {a : List (List Int)} {l : List Nat} {W : Int} {r : TRatio} {S : List (List Int)}
end

def strB (l : List UInt8) : ByteArray := ⟨l.toArray⟩
theorem strB_app (a b : List UInt8) : strB a ++ strB b = strB (a ++ b) := by
  apply ByteArray.ext
  simp [strB]
theorem strB_size (l : List UInt8) : (strB l).size = l.length := rfl
theorem wrap8 {m : Int} (h : 0 ≤ m ∧ m ≤ 255) : IntKind.u8.wrap m = m := by
  simp [IntKind.wrap, IntKind.signed, IntKind.bits]; omega
theorem toS_one {m : Int} {u : Nat} (h : m = 48 + u) (hu : u < 10) : toS [(IntKind.u8.wrap (w64 m))] = strB [UInt8.ofNat (48 + u)] := by
  rw [w64_eq _ (by omega), wrap8 (by omega)]
  have : m.toNat = 48 + u := by omega
  simp only [toS, List.foldl_cons, List.foldl_nil, this]
  rfl
theorem digits_len : ∀ u : Nat, (Lib.decDigits u).length ≤ u + 1 := by
  intro u
  induction u using Nat.strongRecOn with
  | _ u ih =>
    rw [Lib.decDigits]
    split
    · simp
    · have := ih (u / 10) (by omega)
      rw [List.length_append, List.length_singleton]; omega
theorem cat_ok {a b : List UInt8} (h : a.length + b.length ≤ 1000000000) : M.Conv (M.cat (strB a) (strB b)) (strB (a ++ b)) := by
  rw [← strB_app]
  exact M.Conv_cat (by rw [strB_size, strB_size]; omega)
theorem tdiv10 (u : Nat) : (u : Int).tdiv 10 = ((u / 10 : Nat) : Int) := rfl
theorem tmod10 (u : Nat) : (u : Int).tmod 10 = ((u % 10 : Nat) : Int) := rfl
theorem cat_gen {a b : ByteArray} (n : Nat) (h : ((a.size + b.size : Nat) : Int) ≤ 9223372036854775807) : M.cat a b n = some (a ++ b) := by
  unfold M.cat
  rw [decide_eq_true h]; rfl
theorem cat_run {a b : List UInt8} (n : Nat) (h : a.length + b.length ≤ 1000000000) : M.cat (strB a) (strB b) n = some (strB (a ++ b)) := by
  have h2 : (((strB a).size + (strB b).size : Nat) : Int) ≤ 9223372036854775807 := by rw [strB_size, strB_size]; omega
  rw [cat_gen n h2, strB_app]
theorem digits_next {u : Nat} (h : ¬ u < 10) : Lib.decDigits u = Lib.decDigits (u / 10) ++ [UInt8.ofNat (48 + u % 10)] := by rw [Lib.decDigits, dif_neg h]
theorem dec_one (k n : Nat) {x : Int} (h : x < 10) : spec_l01Dec_R (k + 1) x n = some (toS [(IntKind.u8.wrap (w64 (48 + x)))]) := by
  simp only [spec_l01Dec_R, M.ite, M.ret]
  rw [decide_eq_true h, cond_true]
theorem bind_eq {α β : Type} {m : M α} {f : α → M β} {n : Nat} {x : α} (h : m n = some x) : M.bind m f n = f x n := by
  unfold M.bind
  rw [h]
theorem ite_eq {α : Type} {b : Bool} {x y : M α} {n : Nat} (h : b = false) : M.ite b x y n = y n := by subst h; rfl
theorem dec_more (k n : Nat) {x : Int} {b r : ByteArray} (h : ¬ x < 10) (h1 : spec_l01Dec_R k (w64 (x.tdiv 10)) n = some b) (h2 : M.cat b (toS [(IntKind.u8.wrap (w64 (48 + (x.tmod 10))))]) n = some r) : spec_l01Dec_R (k + 1) x n = some r := by
  rw [spec_l01Dec_R, ite_eq (decide_eq_false h), bind_eq h1, bind_eq h2]
  rfl
theorem dec_R (u : Nat) : ∀ k n, u ≤ 1000000 → u + 1 ≤ k → spec_l01Dec_R k (u : Int) n = some (strB (Lib.decDigits u)) := by
  induction u using Nat.strongRecOn with
  | _ u ih =>
    intro k n hu hk
    obtain ⟨k, rfl⟩ : ∃ q, k = q + 1 := ⟨k - 1, by omega⟩
    by_cases h : u < 10
    · rw [dec_one k n (by omega), toS_one rfl h, Lib.decDigits_one h]
    · have hl := digits_len (u / 10)
      refine dec_more k n (by omega) (b := strB (Lib.decDigits (u / 10))) ?_ ?_
      · rw [tdiv10, w64_eq _ (by omega)]
        exact ih (u / 10) (by omega) k n (by omega) (by omega)
      · rw [tmod10, toS_one rfl (by omega), cat_run n (by rw [List.length_singleton]; omega), ← digits_next h]
theorem l01Dec_ok {n : Int} (h : 0 ≤ n ∧ n ≤ 1000000) : M.Conv (spec_l01Dec n) (strB (Lib.decDigits n.toNat)) := by
  obtain ⟨u, rfl⟩ : ∃ u : Nat, n = u := ⟨n.toNat, by omega⟩
  exact ⟨u + 1, fun k hk => dec_R u k k (by omega) hk⟩
theorem decimal_ok {n : Int} (h : 0 ≤ n ∧ n ≤ 1000000) : M.Conv (impl_decimal n) (strB (Lib.decDigits n.toNat)) := by
  refine M.Conv_bind (M.Conv_bind (M.Conv_guard ?_) (M.Conv_ret _)) ((M.Conv_ret _).of ?_)
  · simp; omega
  · unfold Lib.itoa
    rw [if_neg (by omega)]; rfl
/-- the text of a place, and of the first places of a graph -/
def plT (p : TPlace) : List UInt8 := Lib.decDigits p.From.toNat ++ [62] ++ Lib.decDigits p.To.toNat ++ [58] ++ Lib.decDigits p.Delay.toNat ++ [42] ++ Lib.decDigits p.Tokens.toNat
def grT (e : Int) : List TPlace → List UInt8
  | [] => Lib.decDigits e.toNat
  | l => Lib.decDigits e.toNat ++ (l.map fun p => 32 :: plT p).flatten
theorem grT_eq (e : Int) (l : List TPlace) : grT e l = Lib.decDigits e.toNat ++ (l.map fun p => 32 :: plT p).flatten := by
  cases l with
  | nil => simp [grT]
  | cons x t => rfl
structure PlG (e : Int) (p : TPlace) : Prop where
  from_ : 0 ≤ p.From ∧ p.From ≤ 10
  to_ : 0 ≤ p.To ∧ p.To ≤ 10
  del : 0 ≤ p.Delay ∧ p.Delay ≤ 1000
  tok : 0 ≤ p.Tokens ∧ p.Tokens ≤ 5
theorem graph_good {g : TGraph} (h : graphB g = true) : (1 ≤ g.Events ∧ g.Events ≤ 10) ∧ g.Places.length ≤ 30 ∧ ∀ p ∈ g.Places, PlG g.Events p := by
  simp only [graphB, Bool.and_eq_true, inB, decide_eq_true_eq, List.all_eq_true] at h
  obtain ⟨⟨h1, h2⟩, h3⟩ := h
  refine ⟨h1, h2, fun p hp => ?_⟩
  have := h3 p hp
  simp only [placeB, inB, Bool.and_eq_true, decide_eq_true_eq] at this
  rw [w64_eq _ (by omega)] at this
  obtain ⟨⟨⟨a, b⟩, c⟩, d⟩ := this
  exact ⟨by omega, by omega, by omega, by omega⟩
theorem plT_len {e : Int} {p : TPlace} (h : PlG e p) : (plT p).length ≤ 5000 := by
  obtain ⟨a, b, c, d⟩ := h
  have h1 := digits_len p.From.toNat
  have h2 := digits_len p.To.toNat
  have h3 := digits_len p.Delay.toNat
  have h4 := digits_len p.Tokens.toNat
  unfold plT
  simp only [List.length_append, List.length_singleton]
  omega
theorem flat_len2 {e : Int} : ∀ {l : List TPlace}, (∀ p ∈ l, PlG e p) → ((l.map fun p => 32 :: plT p).flatten).length ≤ 5001 * l.length
  | [], _ => by simp
  | x :: t, h => by
    have h1 := plT_len (h x (by simp))
    have h2 := flat_len2 (l := t) fun p hp => h p (by simp [hp])
    simp only [List.map_cons, List.flatten_cons, List.length_append, List.length_cons]
    omega
theorem grT_len {e : Int} {l : List TPlace} (he : e ≤ 10) (hl : l.length ≤ 30) (h : ∀ p ∈ l, PlG e p) : (grT e l).length ≤ 200000 := by
  rw [grT_eq, List.length_append]
  have := digits_len e.toNat
  have := flat_len2 h
  omega
theorem grT_snoc (e : Int) (l : List TPlace) (p : TPlace) : grT e (l ++ [p]) = grT e l ++ (32 :: plT p) := by
  rw [grT_eq, grT_eq]
  simp [List.map_append]
theorem placeText_ok {e : Int} {p : TPlace} (h : PlG e p) : M.Conv (impl_placeText p) (strB (plT p)) := by
  have hp := plT_len h
  obtain ⟨a, b, c, d⟩ := h
  have h1 := digits_len p.From.toNat
  have h2 := digits_len p.To.toNat
  have h3 := digits_len p.Delay.toNat
  have h4 := digits_len p.Tokens.toNat
  unfold impl_placeText
  refine M.Conv_bind (decimal_ok (by omega)) (M.Conv_bind (cat_ok (b := [62]) (by simp; omega)) (M.Conv_bind (decimal_ok (by omega)) (M.Conv_bind (cat_ok (by simp; omega)) (M.Conv_bind (cat_ok (b := [58]) (by simp; omega)) (M.Conv_bind (decimal_ok (by omega)) (M.Conv_bind (cat_ok (by simp; omega)) (M.Conv_bind (cat_ok (b := [42]) (by simp; omega)) (M.Conv_bind (decimal_ok (by omega)) (M.Conv_bind (cat_ok (by simp; omega)) (M.Conv_ret _))))))))))
theorem text_Two (g : TGraph) (s : smG g) : Two (spec_GraphText g) (impl_GraphText g) (fun w => (graphB g = false ∧ w = strB []) ∨ (graphB g = true ∧ w = strB (grT g.Events g.Places))) := by
  have hs := s
  simp only [smG, smP] at hs
  cases hg : graphB g with
  | false =>
    refine Two.mk (r := strB []) ?_ ?_ (.inl ⟨rfl, rfl⟩)
    · exact M.Conv_bind (spec_IsEventGraph_ok (by omega)) (M.Conv_ite (fun _ => M.Conv_ret _) (fun t => by rw [hg] at t; cases t))
    · exact M.Conv_bind (impl_IsEventGraph_ok (by omega)) (M.Conv_ite (fun _ => M.Conv_ret _) (fun t => by rw [hg] at t; cases t))
  | true =>
    obtain ⟨he, hl, hp⟩ := graph_good hg
    have htk : ∀ k, (grT g.Events (g.Places.take k)).length ≤ 200000 := fun k => grT_len (by omega) (by rw [List.length_take]; omega) fun p hp' => hp p (List.mem_of_mem_take hp')
    refine Two.mk (r := strB (grT g.Events g.Places)) ?_ ?_ (.inr ⟨rfl, rfl⟩)
    · unfold spec_GraphText
      refine M.Conv_bind (spec_IsEventGraph_ok (by omega)) (M.Conv_ite (fun t => by rw [hg] at t; cases t) (fun _ => M.Conv_bind (l01Dec_ok (by omega)) (M.Conv_bind (x := (strB (grT g.Events g.Places), (g.Places.length : Int))) ?_ (M.Conv_ret _))))
      apply M.TC.conv
      refine M.TC_loop (fun (w : ByteArray × Int) => ∃ k : Nat, w.2 = k ∧ k ≤ g.Places.length ∧ w.1 = strB (grT g.Events (g.Places.take k))) (fun w => ((g.Places.length : Int) - w.2).toNat) _ ⟨0, rfl, by omega, rfl⟩ fun w hI => ?_
      obtain ⟨k, ek, hk, e1⟩ := hI
      obtain ⟨b, idx⟩ := w
      (try simp only at ek e1 ⊢)
      subst ek
      subst e1
      refine M.TC_ite (fun t => ?_) (fun t => M.TC_ret (.inr ⟨_, rfl, ?_⟩))
      · have hk' : k < g.Places.length := by have := of_decide_eq_true t; omega
        have hx := List.getElem?_eq_getElem hk'
        have hpx := hp _ (List.getElem_mem hk')
        generalize g.Places[k] = p at hx hpx
        have etk : g.Places.take (k + 1) = g.Places.take k ++ [p] := by rw [List.take_add_one, hx]; rfl
        have h0 := htk k
        obtain ⟨a, b, c, d⟩ := hpx
        have h1 := digits_len p.From.toNat
        have h2 := digits_len p.To.toNat
        have h3 := digits_len p.Delay.toNat
        have h4 := digits_len p.Tokens.toNat
        refine M.TC_bindC (M.Conv_idx hx) (M.TC_bindC (cat_ok (b := [32]) (by simp; omega)) (M.TC_bindC (l01Dec_ok (by omega)) (M.TC_bindC (cat_ok (by simp; omega)) (M.TC_bindC (cat_ok (b := [62]) (by simp; omega)) (M.TC_bindC (l01Dec_ok (by omega)) (M.TC_bindC (cat_ok (by simp; omega)) (M.TC_bindC (cat_ok (b := [58]) (by simp; omega)) (M.TC_bindC (l01Dec_ok (by omega)) (M.TC_bindC (cat_ok (by simp; omega)) (M.TC_bindC (cat_ok (b := [42]) (by simp; omega)) (M.TC_bindC (l01Dec_ok (by omega)) (M.TC_bindC (cat_ok (by simp; omega)) (M.TC_ret (.inl ⟨_, rfl, ⟨k + 1, ?_, by omega, ?_⟩, ?_⟩))))))))))))))
        · (try simp only); rw [w64_eq _ (by omega)]; omega
        · (try simp only)
          rw [etk, grT_snoc]
          congr 1
          simp [plT]
        · (try simp only); rw [w64_eq _ (by omega)]; omega
      · have : k = g.Places.length := by have := of_decide_eq_false t; omega
        rw [this, List.take_length]
    · unfold impl_GraphText
      refine M.Conv_bind (impl_IsEventGraph_ok (by omega)) (M.Conv_ite (fun t => by rw [hg] at t; cases t) (fun _ => M.Conv_bind (decimal_ok (by omega)) (M.Conv_bind (x := strB (grT g.Events g.Places)) ?_ (M.Conv_ret _))))
      have := Conv_forV (n := g.Places.length) (f := fun i1 => (fun (s1 : ByteArray) => M.bind (M.idx g.Places i1) (fun x4 => M.bind (impl_placeText x4) (fun x5 => M.bind (M.cat (⟨#[32]⟩ : ByteArray) x5) (fun x6 => M.bind (M.cat s1 x6) (fun x7 => M.ret (.inl x7))))))) (fun k => strB (grT g.Events (g.Places.take k))) (by omega) (fun k hk => by
        have hx := List.getElem?_eq_getElem hk
        have hpx := hp _ (List.getElem_mem hk)
        generalize g.Places[k] = p at hx hpx
        have etk : g.Places.take (k + 1) = g.Places.take k ++ [p] := by rw [List.take_add_one, hx]; rfl
        have h0 := htk k
        have h1 := plT_len hpx
        refine M.Conv_bind (M.Conv_idx hx) (M.Conv_bind (placeText_ok hpx) (M.Conv_bind (cat_ok (a := [32]) (by simp; omega)) (M.Conv_bind (cat_ok (by simp; omega)) ((M.Conv_ret _).of ?_))))
        rw [etk, grT_snoc]; rfl)
      rw [List.take_length] at this
      exact this
theorem FnExactGraphText_ok (aG : TGraph) (gaG : okTGraph aG) : M.Conv (laws_FnExactGraphText aG) true := by
  unfold laws_FnExactGraphText
  obtain ⟨zaG, hzaG, ssaG⟩ := szG_ok gaG
  refine M.Conv_bind hzaG (M.Conv_ite (fun _ => M.Conv_ret _) (fun qaG => ?_))
  have saG := ssaG qaG
  obtain ⟨w, hS, hI, _⟩ := text_Two aG saG
  refine M.Conv_bind (toG_ok saG) (M.Conv_bind hS (M.Conv_bind (toG_ok saG) (M.Conv_bind hI (M.Conv_ite (fun q => ?_) (fun _ => M.Conv_bind (toG_ok saG) (M.Conv_bind (eqG_refl saG) (M.Conv_ite (fun q => by cases q) (fun _ => M.Conv_ret _))))))))
  exfalso
  rw [beq_self_eq_true] at q
  cases q

end Go.Proofs.YtelopfgolahlpaaDoor
