/-
  Plain proofs: the plain program of the law ends with true.
  Conditions: None beyond the given statement.
-/
import Derived.Test.YtfhphkiggdepaaaDoorP
namespace Go.Proofs.YtfhphkiggdepaaaDoor
open Go
/-! ### plain programs: loops over a list -/
namespace M
variable {α β σ ρ : Type}
/-- rounds over the elements of a list, each with its place; a round may leave -/
def run (g : Nat → α → σ → σ ⊕ ρ) (fin : σ → ρ) : Nat → List α → σ → ρ
  | _, [], s => fin s
  | i, x :: xs, s => match g i x s with
    | .inl s' => run g fin (i + 1) xs s'
    | .inr r => r
theorem Conv_forN {l : List α} {f : Int → σ → M (σ ⊕ ρ)} (g : Nat → α → σ → σ ⊕ ρ) (fin : σ → ρ) (I : Nat → σ → Prop) (hi : Int) :
    ∀ (xs : List α) (i : Nat) (s : σ), hi = (i + xs.length : Nat) → I i s → (∀ (j : Nat) x s, xs[j]? = some x → I (i + j) s → Conv (f (i + j : Nat) s) (g (i + j) x s) ∧ ∀ s', g (i + j) x s = .inl s' → I (i + j + 1) s') →
      ∃ N, ∀ n, N ≤ n → forN hi fin f n xs.length i s = some (run g fin i xs s)
  | [], i, s, hh, _, _ => ⟨0, fun n _ => by
      have : ¬ (i : Int) < hi := by rw [hh]; simp
      simp [forN, run, this]⟩
  | x :: xs, i, s, hh, h0, H => by
    have hlt : (i : Int) < hi := by rw [hh]; simp; omega
    obtain ⟨⟨N, hN⟩, hI⟩ := H 0 x s rfl h0
    simp only [Nat.add_zero] at hN hI
    cases hg : g i x s with
    | inl s' =>
      have hi' := hI s' hg
      obtain ⟨N', hN'⟩ := Conv_forN (l := l) g fin I hi xs (i + 1) s' (by rw [hh, List.length_cons]; congr 1; omega) hi' (fun j y s hy hIs => by
        have := H (j + 1) y s (by simpa using hy) (by rw [← Nat.add_assoc, Nat.add_right_comm]; exact hIs)
        rw [show i + (j + 1) = i + 1 + j by omega] at this
        exact this)
      refine ⟨max N N', fun n hn => ?_⟩
      have h1 := hN n (by omega)
      rw [hg] at h1
      simp only [List.length_cons, forN, hlt, decide_true, cond_true, h1, run, hg]
      have := hN' n (by omega)
      simpa using this
    | inr r =>
      refine ⟨N, fun n hn => ?_⟩
      have h1 := hN n hn
      rw [hg] at h1
      simp only [List.length_cons, forN, hlt, decide_true, cond_true, h1, run, hg]
/-- a loop over a list, with an invariant -/
theorem Conv_forI {l : List α} {f : Int → σ → M (σ ⊕ ρ)} {fin : σ → ρ} {s : σ} (g : Nat → α → σ → σ ⊕ ρ) (I : Nat → σ → Prop) (hl : l.length ≤ 9223372036854775807) (h0 : I 0 s)
    (H : ∀ (i : Nat) x s, l[i]? = some x → I i s → Conv (f i s) (g i x s) ∧ ∀ s', g i x s = .inl s' → I (i + 1) s') : Conv (forI 0 (l.length : Int) fin f s) (run g fin 0 l s) := by
  obtain ⟨N, hN⟩ := Conv_forN (l := l) (f := f) g fin I (l.length : Int) l 0 s (by simp) h0 (fun j x s hx hI => by simpa using H j x s hx (by simpa using hI))
  refine ⟨N, fun n hn => ?_⟩
  have h1 : (l.length : Int) ≤ 9223372036854775807 := by omega
  simp only [forI, h1, decide_true, Bool.and_true, show (-9223372036854775808 : Int) ≤ 0 by decide, cond_true]
  have := hN n hn
  simpa using this
/-- .. without one -/
theorem Conv_forL {l : List α} {f : Int → σ → M (σ ⊕ ρ)} {fin : σ → ρ} {s : σ} (g : Nat → α → σ → σ ⊕ ρ) (hl : l.length ≤ 9223372036854775807)
    (H : ∀ (i : Nat) x s, l[i]? = some x → Conv (f i s) (g i x s)) : Conv (forI 0 (l.length : Int) fin f s) (run g fin 0 l s) :=
  Conv_forI g (fun _ _ => True) hl trivial fun i x s hx _ => ⟨H i x s hx, fun _ _ => trivial⟩
theorem Conv.of {m : M α} {r r' : α} (h : Conv m r) (e : r = r') : Conv m r' := e ▸ h
theorem Conv_ite {b : Bool} {x y : M α} {r : α} (h1 : b = true → Conv x r) (h2 : b = false → Conv y r) : Conv (ite b x y) r := by
  cases b
  · exact h2 rfl
  · exact h1 rfl
theorem Conv_ite2 {b : Bool} {x y : M α} {r s : α} (h1 : b = true → Conv x r) (h2 : b = false → Conv y s) : Conv (ite b x y) (bif b then r else s) := by
  cases b
  · exact h2 rfl
  · exact h1 rfl
theorem Conv_guard {b : Bool} (h : b = true) : Conv (guard b) () := ⟨0, fun _ _ => by simp [guard, h]⟩
theorem Conv_upd {l : List α} {i : Nat} {x : α} (h : i < l.length) : Conv (upd l i x) (l.set i x) := ⟨0, fun _ _ => by simp [upd, h]⟩
theorem Conv_get {l : List α} {i : Int} {x : α} (h0 : 0 ≤ i) (h : l[i.toNat]? = some x) : Conv (idx l i) x := ⟨0, fun _ _ => by simp [idx, h0, h]⟩
/-- a value told in both ways of a test, then the rest -/
theorem Conv_bite {b : Bool} {x y : M α} {f : α → M β} {u v : α} {r : β} (h1 : b = true → Conv x u) (h2 : b = false → Conv y v) (g : Conv (f (bif b then u else v)) r) : Conv (bind (ite b x y) f) r :=
  Conv_bind (Conv_ite2 h1 h2) g

/-! searches: a loop that leaves at the first element of a kind -/
theorem run_all (p : α → Bool) (u : Unit ⊕ ρ) : ∀ (i : Nat) (l : List α), run (ρ := Unit ⊕ ρ) (fun _ x _ => bif p x then .inl () else .inr u) (fun s => .inl s) i l () = bif l.all p then .inl () else u
  | _, [] => rfl
  | i, x :: xs => by
    simp only [run, List.all_cons]
    cases p x
    · rfl
    · simpa using run_all p u (i + 1) xs
/-- 'for .. if not p x, return v' -/
theorem Conv_all {l : List α} {f : Int → Unit → M (Unit ⊕ (Unit ⊕ ρ))} (p : α → Bool) (v : ρ) (hl : l.length ≤ 9223372036854775807) (H : ∀ (i : Nat) x, l[i]? = some x → Conv (f i ()) (bif p x then .inl () else .inr (.inr v))) :
    Conv (forI 0 (l.length : Int) (fun s => .inl s) f ()) (bif l.all p then .inl () else .inr v) :=
  (Conv_forL (fun _ x _ => bif p x then .inl () else .inr (.inr v)) hl fun i x _ hx => H i x hx).of (run_all p (.inr v) 0 l)
/-- the same, where the element's place matters to the test -/
theorem run_allI (p : Nat → α → Bool) (u : Unit ⊕ ρ) : ∀ (i : Nat) (l : List α), run (ρ := Unit ⊕ ρ) (fun j x _ => bif p j x then .inl () else .inr u) (fun s => .inl s) i l () = bif (l.zipIdx i).all (fun q => p q.2 q.1) then .inl () else u
  | _, [] => rfl
  | i, x :: xs => by
    simp only [run, List.zipIdx_cons, List.all_cons]
    cases p i x
    · rfl
    · simpa using run_allI p u (i + 1) xs
theorem Conv_allI {l : List α} {f : Int → Unit → M (Unit ⊕ (Unit ⊕ ρ))} (p : Nat → α → Bool) (v : ρ) (hl : l.length ≤ 9223372036854775807) (H : ∀ (i : Nat) x, l[i]? = some x → Conv (f i ()) (bif p i x then .inl () else .inr (.inr v))) :
    Conv (forI 0 (l.length : Int) (fun s => .inl s) f ()) (bif (l.zipIdx 0).all (fun q => p q.2 q.1) then .inl () else .inr v) :=
  (Conv_forL (fun j x _ => bif p j x then .inl () else .inr (.inr v)) hl fun i x _ hx => H i x hx).of (run_allI p (.inr v) 0 l)
/-- 'for i .. if p x, return i' -/
theorem run_find (p : α → Bool) : ∀ (i : Nat) (l : List α), run (σ := Unit) (ρ := Unit ⊕ Int) (fun j x _ => bif p x then .inr (.inr (j : Int)) else .inl ()) (fun s => .inl s) i l () = match l.findIdx? p with
    | some j => .inr ((i + j : Nat) : Int)
    | none => .inl ()
  | _, [] => rfl
  | i, x :: xs => by
    simp only [run, List.findIdx?_cons]
    cases hp : p x
    · simp only [cond_false, run_find p (i + 1) xs, Bool.false_eq_true, if_false]
      cases xs.findIdx? p with
      | none => rfl
      | some j => simp only [Option.map_some]; congr 2; omega
    · simp
theorem Conv_find {l : List α} {f : Int → Unit → M (Unit ⊕ (Unit ⊕ Int))} (p : α → Bool) (hl : l.length ≤ 9223372036854775807) (H : ∀ (i : Nat) x, l[i]? = some x → Conv (f i ()) (bif p x then .inr (.inr (i : Int)) else .inl ())) :
    Conv (forI 0 (l.length : Int) (fun s => .inl s) f ()) (match l.findIdx? p with | some j => .inr (j : Int) | none => .inl ()) :=
  (Conv_forL (fun j x _ => bif p x then .inr (.inr (j : Int)) else .inl ()) hl fun i x _ hx => H i x hx).of (by rw [run_find]; simp)
/-- sums: each round turns what has been gathered -/
theorem run_fold (g : σ → α → σ) : ∀ (i : Nat) (l : List α) (s : σ), run (fun _ x s => .inl (g s x)) (fun s => s) i l s = l.foldl g s
  | _, [], _ => rfl
  | i, x :: xs, s => by simpa [run] using run_fold g (i + 1) xs (g s x)
theorem Conv_fold {l : List α} {f : Int → σ → M (σ ⊕ σ)} {s : σ} (g : σ → α → σ) (hl : l.length ≤ 9223372036854775807) (H : ∀ (i : Nat) x s, l[i]? = some x → Conv (f i s) (.inl (g s x))) :
    Conv (forI 0 (l.length : Int) (fun s => s) f s) (l.foldl g s) :=
  (Conv_forL (fun _ x s => .inl (g s x)) hl fun i x s hx => H i x s hx).of (run_fold g 0 l s)
theorem get_set_append {l r : List α} {x y : α} : (l ++ y :: r).set l.length x = l ++ x :: r := by simp
/-- a loop that fills a list of the same length, element by element -/
theorem run_fill (g : Nat → α → β) (z : β) : ∀ (i : Nat) (l : List α) (d : List β), d.length = i →
    run (fun j x s => .inl (s.set j (g j x))) (fun s => s) i l (d ++ List.replicate l.length z) = d ++ (l.zipIdx i).map (fun q => g q.2 q.1)
  | _, [], d, _ => by simp [run]
  | i, x :: xs, d, hd => by
    subst hd
    simp only [run, List.length_cons, List.replicate_succ, get_set_append]
    have := run_fill g z (d.length + 1) xs (d ++ [g d.length x]) (by simp)
    simp only [List.append_assoc, List.singleton_append] at this
    rw [this]
    simp
theorem Conv_fill {l : List α} {f : Int → List β → M (List β ⊕ List β)} (g : Nat → α → β) (z : β) (hl : l.length ≤ 9223372036854775807)
    (H : ∀ (i : Nat) x s, l[i]? = some x → s.length = l.length → Conv (f i s) (.inl (s.set i (g i x)))) :
    Conv (forI 0 (l.length : Int) (fun s => s) f (List.replicate l.length z)) ((l.zipIdx 0).map (fun q => g q.2 q.1)) := by
  refine (Conv_forI (fun j x s => .inl (s.set j (g j x))) (fun _ s => s.length = l.length) hl (by simp) fun i x s hx hI => ⟨H i x s hx hI, fun s' e => ?_⟩).of ?_
  · cases e; simpa using hI
  · simpa using run_fill g z 0 l [] rfl
theorem zipIdx_map_fst {l : List α} {g : α → β} {i : Nat} : ((l.zipIdx i).map fun q => g q.1) = l.map g := by
  have h : List.map (g ∘ Prod.fst) (l.zipIdx i) = List.map g l := by rw [← List.map_map, List.zipIdx_map_fst]
  exact h
theorem findIdx_any {l : List α} {p : α → Bool} : (decide ((0:Int) ≤ match l.findIdx? p with | some j => (j : Int) | none => -1)) = l.any p := by
  cases h : l.findIdx? p with
  | none => rw [List.findIdx?_eq_none_iff] at h; simp; exact fun x hx => by simpa using h x hx
  | some j =>
    obtain ⟨hj, hp, _⟩ := List.findIdx?_eq_some_iff_getElem.1 h
    simp
    exact ⟨_, List.getElem_mem hj, hp⟩
end M

theorem spec_l01In_ok (x lo hi : Int) : M.Conv (spec_l01In x lo hi) (decide (lo ≤ x) && decide (x ≤ hi)) := M.Conv_ret _
theorem impl_within_ok (x lo hi : Int) : M.Conv (impl_within x lo hi) (decide (lo ≤ x) && decide (x ≤ hi)) := M.Conv_ret _
/-- 'slices.ContainsFunc', behind 'slices.IndexFunc' -/
theorem contains_ok {α : Type} {l : List α} {f : Int → Unit → M (Unit ⊕ (Unit ⊕ Int))} (p : α → Bool) (hl : l.length ≤ 9223372036854775807) (H : ∀ (i : Nat) x, l[i]? = some x → M.Conv (f i ()) (bif p x then .inr (.inr (i : Int)) else .inl ())) :
    M.Conv (M.bind (M.bind (M.forI 0 (l.length : Int) (fun s => .inl s) f ()) (fun x1 => M.cont x1 (fun _ => M.ret (-1)) (fun r => M.ret r))) (fun x1 => M.ret (decide (0 ≤ x1)))) (l.any p) := by
  rw [← M.findIdx_any]
  refine M.Conv_bind (M.Conv_bind (M.Conv_find p hl H) ?_) (M.Conv_ret _)
  cases l.findIdx? p <;> exact M.Conv_ret _
theorem any_not {α : Type} {l : List α} {p : α → Bool} : (!l.any fun x => !p x) = l.all p := by
  induction l with
  | nil => rfl
  | cons x xs ih => simp only [List.any_cons, List.all_cons, Bool.not_or, Bool.not_not, ih]
/-- two programs, one answer -/
def Two {α : Type} (m m' : M α) (Post : α → Prop) : Prop := ∃ r, M.Conv m r ∧ M.Conv m' r ∧ Post r
theorem Two.mk {α : Type} {m m' : M α} {Post : α → Prop} {r : α} (h : M.Conv m r) (h' : M.Conv m' r) (p : Post r) : Two m m' Post := ⟨r, h, h', p⟩
theorem Two.ret {α : Type} {Post : α → Prop} (r : α) (p : Post r) : Two (M.ret r) (M.ret r) Post := ⟨r, M.Conv_ret _, M.Conv_ret _, p⟩
theorem Two.bindC {α α' β : Type} {m : M α} {m' : M α'} {f : α → M β} {f' : α' → M β} {Q : β → Prop} {x : α} {x' : α'} (h : M.Conv m x) (h' : M.Conv m' x') (g : Two (f x) (f' x') Q) : Two (M.bind m f) (M.bind m' f') Q := by
  obtain ⟨r, g1, g2, q⟩ := g
  exact ⟨r, M.Conv_bind h g1, M.Conv_bind h' g2, q⟩
theorem Two.ite {α : Type} {b : Bool} {x y x' y' : M α} {Q : α → Prop} (h1 : b = true → Two x x' Q) (h2 : b = false → Two y y' Q) : Two (M.ite b x y) (M.ite b x' y') Q := by
  cases b
  · exact h2 rfl
  · exact h1 rfl
def okTPlace (p : TPlace) : Prop := inI64 p.From ∧ inI64 p.To ∧ inI64 p.Delay ∧ inI64 p.Tokens
def okTGraph (g : TGraph) : Prop := inI64 g.Events ∧ fitL okTPlace g.Places
def smP (l : List TPlace) : Prop := l.length ≤ 1099511627
def smG (g : TGraph) : Prop := smP g.Places
theorem Conv_and {b v : Bool} {m : M Bool} (h : b = true → M.Conv m v) : M.Conv (M.ite b (M.bind m (fun x => M.ret x)) (M.ret false)) (b && v) := by
  refine M.Conv_ite (fun q => ?_) (fun q => ?_)
  · rw [q]; exact M.Conv_bind (h q) (M.Conv_ret _)
  · rw [q]; exact M.Conv_ret _
def inB (x lo hi : Int) : Bool := decide (lo ≤ x) && decide (x ≤ hi)
def placeB (e : Int) (p : TPlace) : Bool := ((inB p.From 0 (w64 (e - 1)) && inB p.To 0 (w64 (e - 1))) && inB p.Delay 0 1000) && inB p.Tokens 0 5
theorem spec_l11Place_ok (p : TPlace) (e : Int) : M.Conv (spec_l11Place p e) (placeB e p) :=
  M.Conv_bind (spec_l01In_ok _ _ _) (M.Conv_bind (Conv_and fun _ => spec_l01In_ok _ _ _) (M.Conv_bind (Conv_and fun _ => spec_l01In_ok _ _ _) (M.Conv_bind (Conv_and fun _ => spec_l01In_ok _ _ _) (M.Conv_ret _))))
theorem impl_isEvent_ok (g : TGraph) (e : Int) : M.Conv (impl_isEvent g e) (inB e 0 (w64 (g.Events - 1))) := M.Conv_bind (impl_within_ok _ _ _) (M.Conv_ret _)
theorem impl_isPlace_ok (g : TGraph) (p : TPlace) : M.Conv (impl_isPlace g p) (placeB g.Events p) :=
  M.Conv_bind (impl_isEvent_ok _ _) (M.Conv_bind (Conv_and fun _ => impl_isEvent_ok _ _) (M.Conv_bind (Conv_and fun _ => impl_within_ok _ _ _) (M.Conv_bind (Conv_and fun _ => impl_within_ok _ _ _) (M.Conv_ret _))))
def graphB (g : TGraph) : Bool := (inB g.Events 1 10 && decide (g.Places.length ≤ 30)) && g.Places.all (placeB g.Events)
/-- 'for i < len(l)', the counter a variable; a round may leave -/
def runO {α ρ : Type} (g : Nat → α → Option ρ) (e : ρ) : Nat → List α → ρ
  | _, [] => e
  | i, x :: xs => match g i x with | none => runO g e (i + 1) xs | some r => r
theorem Conv_while {α ρ : Type} {l : List α} {f : Int → M (Int ⊕ ρ)} (g : Nat → α → Option ρ) (e : ρ) (step : ∀ (i : Nat) x, l[i]? = some x → M.Conv (f i) (match g i x with | none => .inl ((i : Int) + 1) | some r => .inr r)) (stop : M.Conv (f (l.length : Int)) (.inr e)) :
    M.Conv (M.loop f 0) (runO g e 0 l) := by
  have key : ∀ (xs : List α) (i : Nat), (∀ (j : Nat) x, xs[j]? = some x → M.Conv (f (i + j : Nat)) (match g (i + j) x with | none => .inl (((i + j : Nat) : Int) + 1) | some r => .inr r)) → M.Conv (f (i + xs.length : Nat)) (.inr e) →
      ∃ N m0, ∀ n, N ≤ n → ∀ m, m0 ≤ m → M.loopN f n m (i : Int) = some (runO g e i xs) := by
    intro xs
    induction xs with
    | nil =>
      intro i _ ⟨N, h⟩
      refine ⟨N, 1, fun n hn m hm => ?_⟩
      obtain ⟨m, rfl⟩ : ∃ q, m = q + 1 := ⟨m - 1, by omega⟩
      have := h n hn
      simp only [List.length_nil, Nat.add_zero] at this
      simp [M.loopN, this, runO]
    | cons x xs ih =>
      intro i hs hst
      obtain ⟨N, h⟩ := hs 0 x rfl
      simp only [Nat.add_zero] at h
      cases hg : g i x with
      | none =>
        obtain ⟨N', m0, h'⟩ := ih (i + 1) (fun j y hy => by have := hs (j + 1) y (by simpa using hy); rw [show i + (j + 1) = i + 1 + j by omega] at this; exact this) (by rw [show i + 1 + xs.length = i + (x :: xs).length by simp; omega]; exact hst)
        refine ⟨max N N', m0 + 1, fun n hn m hm => ?_⟩
        obtain ⟨m, rfl⟩ : ∃ q, m = q + 1 := ⟨m - 1, by omega⟩
        have h1 := h n (by omega)
        rw [hg] at h1
        simp only [M.loopN, h1, runO, hg]
        exact h' n (by omega) m (by omega)
      | some r =>
        refine ⟨N, 1, fun n hn m hm => ?_⟩
        obtain ⟨m, rfl⟩ : ∃ q, m = q + 1 := ⟨m - 1, by omega⟩
        have h1 := h n hn
        rw [hg] at h1
        simp only [M.loopN, h1, runO, hg]
  obtain ⟨N, m0, h⟩ := key l 0 (fun j x hx => by simpa using step j x hx) (by simpa using stop)
  exact ⟨max N m0, fun n hn => h n (by omega) n (by omega)⟩
theorem runO_all {α ρ : Type} (p : α → Bool) (r e : ρ) : ∀ (l : List α) (i : Nat), runO (fun _ x => bif p x then none else some r) e i l = bif l.all p then e else r
  | [], _ => rfl
  | x :: xs, i => by
    simp only [runO, List.all_cons]
    cases p x with
    | true => simpa using runO_all p r e xs (i + 1)
    | false => rfl
theorem spec_IsEventGraph_ok {g : TGraph} (hl : g.Places.length ≤ 9223372036854775806) : M.Conv (spec_IsEventGraph g) (graphB g) := by
  unfold spec_IsEventGraph
  refine M.Conv_bind ((Conv_while (l := g.Places) (fun _ p => bif placeB g.Events p then none else some (.inr false)) (.inl (g.Places.length : Int)) (fun i p hp => ?_) ?_).of (runO_all _ _ _ _ _)) ?_
  · have hi := (List.getElem?_eq_some_iff.1 hp).1
    refine M.Conv_ite (fun _ => M.Conv_bind (M.Conv_get (by omega) (by simpa using hp)) (M.Conv_bind (spec_l11Place_ok _ _) (M.Conv_ite (fun q => ?_) (fun q => ?_)))) (fun q => by have := of_decide_eq_false q; omega)
    · simp only [Bool.not_eq_true'] at q; rw [q]; exact M.Conv_ret _
    · simp only [Bool.not_eq_false'] at q; rw [q]; exact (M.Conv_ret _).of (by rw [w64_eq _ (by omega)]; rfl)
  · exact M.Conv_ite (fun q => by have := of_decide_eq_true q; omega) (fun _ => M.Conv_ret _)
  · cases hb : g.Places.all (placeB g.Events) with
    | false => exact (M.Conv_ret _).of (by simp [graphB, hb])
    | true =>
      show M.Conv (M.bind (spec_l01In g.Events 1 10) (fun x4 => M.ret (x4 && (decide ((g.Places.length : Int) ≤ 30))))) _
      refine M.Conv_bind (spec_l01In_ok _ _ _) ((M.Conv_ret _).of ?_)
      simp only [graphB, hb, inB, Bool.and_true]
      rw [decide_eq_decide.2 (show (g.Places.length : Int) ≤ 30 ↔ g.Places.length ≤ 30 by omega)]
theorem impl_IsEventGraph_ok {g : TGraph} (hl : g.Places.length ≤ 9223372036854775806) : M.Conv (impl_IsEventGraph g) (graphB g) := by
  unfold impl_IsEventGraph slices_ContainsFunc_Place_F_impl_IsEventGraph_1 slices_IndexFunc_Place_F_impl_IsEventGraph_1
  refine M.Conv_bind (impl_within_ok _ _ _) (M.Conv_bind (x := graphB g) ?_ (M.Conv_ret _))
  have e : ((decide (1 ≤ g.Events) && decide (g.Events ≤ 10)) && decide ((g.Places.length : Int) ≤ 30)) = (inB g.Events 1 10 && decide (g.Places.length ≤ 30)) := by
    rw [decide_eq_decide.2 (show (g.Places.length : Int) ≤ 30 ↔ g.Places.length ≤ 30 by omega)]; rfl
  rw [e]
  refine M.Conv_ite (fun q => ?_) (fun q => (M.Conv_ret _).of (by simp [graphB, q]))
  refine M.Conv_bind (contains_ok (fun p => !placeB g.Events p) (by omega) fun i p hp => ?_) ((M.Conv_ret _).of ?_)
  · refine M.Conv_bind (M.Conv_get (by omega) (by simpa using hp)) (M.Conv_bind (x := !placeB g.Events p) (M.Conv_bind (impl_isPlace_ok _ _) (M.Conv_ret _)) ?_)
    cases placeB g.Events p <;> exact M.Conv_ret _
  · rw [any_not]; simp [graphB, q]
theorem Conv_forV {σ : Type} {n : Nat} {f : Int → σ → M (σ ⊕ σ)} (val : Nat → σ) (hn : n ≤ 9223372036854775807) (h : ∀ i, i < n → M.Conv (f i (val i)) (.inl (val (i + 1)))) : M.Conv (M.forI 0 (n : Int) (fun s => s) f (val 0)) (val n) := by
  have := M.Conv_forI (l := List.range n) (f := f) (fin := fun s => s) (s := val 0) (ρ := σ) (fun i _ _ => .inl (val (i + 1))) (fun i s => s = val i) (by simpa using hn) rfl (fun i x s hx hs => by
    subst hs
    have hi := (List.getElem?_eq_some_iff.1 hx).1
    exact ⟨h i (by simpa using hi), fun s' e => by cases e; rfl⟩)
  simp only [List.length_range] at this
  refine this.of ?_
  have run : ∀ (m i : Nat), M.run (σ := σ) (ρ := σ) (fun i (_ : Nat) _ => .inl (val (i + 1))) (fun s => s) i (List.range m) (val i) = val (i + m) := by
    have g : ∀ (l : List Nat) (i : Nat), M.run (σ := σ) (ρ := σ) (fun i (_ : Nat) _ => .inl (val (i + 1))) (fun s => s) i l (val i) = val (i + l.length) := by
      intro l
      induction l with
      | nil => intro i; rfl
      | cons x xs ih => intro i; simp only [M.run, List.length_cons]; rw [ih (i + 1)]; congr 1; omega
    intro m i
    rw [g, List.length_range]
  simpa using run n 0
theorem spec_l11Own_ok {g : TGraph} (h : smG g) : M.Conv (spec_l11Own g) g := by
  unfold smG smP at h
  exact M.Conv_bind (M.Conv_app (by simp; omega)) ((M.Conv_ret _).of (by simp))
theorem slices_Clone_Place_ok {l : List TPlace} (h : smP l) : M.Conv (slices_Clone_Place l) l := by
  unfold smP at h
  exact M.Conv_bind (M.Conv_app (by simp; omega)) ((M.Conv_ret _).of (by simp))
theorem impl_cloneGraph_ok {g : TGraph} (h : smG g) : M.Conv (impl_cloneGraph g) g := M.Conv_bind (slices_Clone_Place_ok h) (M.Conv_ret _)
theorem graphB_len {g : TGraph} (h : graphB g = true) : g.Places.length ≤ 30 := by
  simp only [graphB, Bool.and_eq_true, decide_eq_true_eq] at h
  exact h.1.2
theorem same_AddPlace (g : TGraph) (_ : okTGraph g) (p : TPlace) (_ : okTPlace p) (s : smG g) : Two (spec_AddPlace g p) (impl_AddPlace g p) (fun w => smG w.1) := by
  have hs := s
  unfold smG smP at hs
  unfold spec_AddPlace impl_AddPlace
  refine Two.bindC (spec_IsEventGraph_ok (by omega)) (impl_IsEventGraph_ok (by omega)) (Two.ite (fun _ => Two.ret _ (by simp [smG, smP])) (fun q => ?_))
  have hl := graphB_len (by simpa using q)
  refine Two.bindC (spec_l11Place_ok _ _) (impl_isPlace_ok _ _) (Two.ite (fun _ => Two.ret _ (by simp [smG, smP])) (fun _ => Two.ite (fun _ => Two.ret _ (by simp [smG, smP])) (fun _ => ?_)))
  have happ : M.Conv (M.app g.Places ([p] : List TPlace)) (g.Places ++ [p]) := M.Conv_app (by simp; omega)
  exact Two.bindC (spec_l11Own_ok s) (impl_cloneGraph_ok s) (Two.bindC happ happ (Two.ret _ (by simp [smG, smP]; omega)))

structure ByC (code : List Int) : Prop where
  len : code.length ≤ 4096
  byte : ∀ x ∈ code, 0 ≤ x ∧ x ≤ 255
structure Src (code : List Int) (s : TL01source) : Prop where
  code_ : s.code = code
  lo : 0 ≤ s.at_
  hi : s.at_ ≤ code.length
  seed : 0 ≤ s.seed ∧ s.seed < 2147483647
theorem Src.mk' {code : List Int} {s : TL01source} {c : List Int} (h : Src code s) (hc : c = code) : Src code ⟨c, s.at_, s.seed⟩ := ⟨hc, h.lo, h.hi, h.seed⟩
theorem tmod_in {x n : Int} (hx : 0 ≤ x) (hn : 0 < n) : 0 ≤ x.tmod n ∧ x.tmod n < n := ⟨Int.tmod_nonneg n hx, Int.tmod_lt_of_pos x hn⟩
theorem tdiv_in {x : Int} (hx : 0 ≤ x) (h : x < 2147483647) : 0 ≤ x.tdiv 31 ∧ x.tdiv 31 < 2147483647 := by
  rw [Int.tdiv_eq_ediv_of_nonneg hx]; omega
theorem from_ok {code : List Int} (hc : ByC code) : M.TC (spec_l01From code) (Src code) := by
  have hl := hc.len
  unfold spec_l01From
  refine M.TC_bind (Mid := fun x => 0 ≤ x.1 ∧ x.1 < 2147483647) (M.TC_loop (fun (s : Int × Int) => (0 ≤ s.1 ∧ s.1 < 2147483647) ∧ 0 ≤ s.2 ∧ s.2 ≤ 4096) (fun s => (4096 - s.2).toNat) (61403, 0) (by simp) fun s hs => ?_) fun x hx => M.TC_ret ⟨rfl, by simp, by simp, hx⟩
  refine M.TC_ite (fun t => ?_) (fun _ => M.TC_ret (.inr ⟨_, rfl, hs.1⟩))
  simp only [Bool.and_eq_true, decide_eq_true_eq] at t
  refine M.TC_bind (Mid := fun x => 0 ≤ x ∧ x ≤ 255) (M.TC_idx hs.2.1 t.1 fun x hx => hc.byte x (List.mem_of_getElem? hx)) fun x hx => M.TC_ret (.inl ⟨_, rfl, ?_, ?_⟩)
  · have e1 : w64 (s.1 * 67) = s.1 * 67 := w64_eq _ (by omega)
    have e2 : w64 x = x := w64_eq _ (by omega)
    have e3 : w64 (s.1 * 67 + x) = s.1 * 67 + x := w64_eq _ (by omega)
    have e4 : w64 (s.2 + 1) = s.2 + 1 := w64_eq _ (by omega)
    simp only [e1, e2, e3, e4]
    exact ⟨tmod_in (by omega) (by omega), by omega, by omega⟩
  · simp only
    rw [w64_eq _ (by omega)]; omega
theorem next_ok {code : List Int} (hc : ByC code) {s : TL01source} (hs : Src code s) (n : Int) (hn : n ≤ 1000000) : M.TC (spec_l01Next s n) (fun r => Src code r.2 ∧ 0 ≤ r.1 ∧ (r.1 < n ∨ (n ≤ 1 ∧ r.1 = 0))) := by
  have hl := hc.len
  obtain ⟨h1, h2, h3, h4⟩ := hs
  unfold spec_l01Next
  refine M.TC_ite (fun t => M.TC_ret ⟨⟨h1, h2, h3, h4⟩, by simp, .inr ⟨by simpa using t, rfl⟩⟩) (fun t => ?_)
  have t : 1 < n := by simpa using t
  have e1 : w64 (s.seed * 48271) = s.seed * 48271 := w64_eq _ (by omega)
  have e2 : w64 (s.seed * 48271 + 59) = s.seed * 48271 + 59 := w64_eq _ (by omega)
  have hsd := tmod_in (x := s.seed * 48271 + 59) (n := 2147483647) (by omega) (by omega)
  simp only [e1, e2]
  generalize (s.seed * 48271 + 59).tmod 2147483647 = sd at hsd ⊢
  have hq := tdiv_in hsd.1 hsd.2
  generalize sd.tdiv 31 = q at hq ⊢
  have e3 : w64 q = q := w64_eq _ (by omega)
  have e4 : w64 (s.at_ + 1) = s.at_ + 1 := w64_eq _ (by omega)
  simp only [e3, e4, h1]
  refine M.TC_bind (Mid := fun (x : Int × Int) => 0 ≤ x.1 ∧ 0 ≤ x.2 ∧ x.2 ≤ code.length) ?_ (fun x hx => M.TC_bind (M.TC_guard (Post := fun _ => True) (by simp; omega) trivial) fun _ _ => M.TC_ret ⟨⟨rfl, hx.2.1, hx.2.2, hsd⟩, (tmod_in hx.1 (by omega)).1, .inl (tmod_in hx.1 (by omega)).2⟩)
  refine M.TC_ite (fun t => ?_) (fun _ => M.TC_ret ⟨hq.1, h2, h3⟩)
  have t : s.at_ < code.length := by simpa using t
  refine M.TC_bind (Mid := fun x => 0 ≤ x ∧ x ≤ 255) (M.TC_idx h2 t fun x hx => hc.byte x (List.mem_of_getElem? hx)) fun x hx => ?_
  refine M.TC_ite (fun _ => ?_) (fun _ => M.TC_ret ⟨?_, by simp only; omega, by simp only; omega⟩)
  · have e5 : w64 (s.at_ + 1 - 1) = s.at_ := by rw [w64_eq _ (by omega)]; omega
    rw [e5]
    refine M.TC_bind (Mid := fun x => 0 ≤ x ∧ x ≤ 255) (M.TC_idx h2 t fun x hx => hc.byte x (List.mem_of_getElem? hx)) fun x hx => M.TC_ret ⟨?_, by simp only; omega, by simp only; omega⟩
    simp only
    rw [w64_eq _ (by omega)]; exact hx.1
  · simp only
    rw [w64_eq x (by omega), w64_eq _ (by omega)]; omega
theorem pick_ok {code : List Int} (hc : ByC code) {s : TL01source} (hs : Src code s) (l : List Int) (h1 : 1 ≤ l.length) (h2 : l.length ≤ 1000) (P : Int → Prop) (hP : ∀ x ∈ l, P x) : M.TC (spec_l01Pick s l) (fun r => Src code r.2.1 ∧ P r.1) := by
  unfold spec_l01Pick
  refine M.TC_bind (next_ok hc hs l.length (by omega)) fun x hx => M.TC_bind (Mid := P) (M.TC_idx hx.2.1 (by omega) fun y hy => hP y (List.mem_of_getElem? hy)) fun y hy => M.TC_ret ⟨hx.1.mk' hs.code_, hy⟩
theorem big_ok (code : List Int) : M.Conv (laws_big code) (decide (4096 < (code.length : Int))) := M.Conv_ret _
theorem ByC.of {code : List Int} (h : fitL inU8 code) (hb : decide (4096 < (code.length : Int)) = false) : ByC code := ⟨by have := of_decide_eq_false hb; omega, fun x hx => h.2 x hx⟩
def idxOK (g : TGraph) (i : Int) : Prop := graphB g = true ∧ 0 ≤ i ∧ i < g.Places.length
def dropG (g : TGraph) (i : Int) : TGraph := ⟨g.Events, g.Places.take i.toNat ++ g.Places.drop (i.toNat + 1)⟩
theorem drop_impl {g : TGraph} {i : Int} (s : smG g) (h : idxOK g i) : M.Conv (impl_DropPlace g i) (dropG g i, 0) := by
  obtain ⟨h1, h2, h3⟩ := h
  have hs := s
  simp only [smG, smP] at hs
  unfold impl_DropPlace
  refine M.Conv_bind (impl_IsEventGraph_ok (by omega)) (M.Conv_ite (fun t => by rw [h1] at t; cases t) (fun _ => M.Conv_bind (impl_within_ok _ _ _) (M.Conv_ite (fun t => ?_) (fun _ => M.Conv_bind (impl_cloneGraph_ok s) (M.Conv_bind (x := g.Places.take i.toNat ++ g.Places.drop (i.toNat + 1)) ?_ (M.Conv_ret _))))))
  · rw [w64_eq _ (by omega)] at t; simp at t; omega
  · have ew : w64 (i + 1) = i + 1 := w64_eq _ (by omega)
    have e1 : (i + 1).toNat = i.toNat + 1 := by omega
    unfold slices_Delete_Place
    rw [ew]
    refine M.Conv_bind (M.Conv_sub (by omega) (by omega) (by omega)) (M.Conv_ite (fun t => by simp at t; omega) (fun _ => M.Conv_bind ((M.Conv_sub (by omega) (by omega) (by omega)).of (r' := g.Places.take i.toNat) (by simp)) (M.Conv_bind ((M.Conv_sub (by omega) (by omega) (by omega)).of (r' := g.Places.drop (i.toNat + 1)) ?_) (M.Conv_bind (M.Conv_app (by simp; omega)) (M.Conv_ret _)))))
    rw [e1]
    exact List.take_of_length_le (by rw [List.length_drop]; omega)
theorem l11Draw_ok {code : List Int} (hc : ByC code) {s : TL01source} (hs : Src code s) : M.TC (spec_l11Draw s) (fun r => (okTGraph r.1 ∧ r.1.Places.length ≤ 40) ∧ (-1 ≤ r.1.Events ∧ r.1.Events ≤ 11) ∧ Src code r.2) := by
  unfold spec_l11Draw
  rw [hs.code_]
  refine M.TC_bind (next_ok hc hs 5 (by omega)) fun x hx => M.TC_bind (next_ok hc (hx.1.mk' rfl) 9 (by omega)) fun y hy => ?_
  have ew : w64 (1 + x.1) = 1 + x.1 := w64_eq _ (by omega)
  rw [ew]
  have snoc : ∀ {l : List TPlace} {p : TPlace}, (∀ q ∈ l, okTPlace q) → okTPlace p → ∀ q ∈ l ++ [p], okTPlace q := fun h hp q hq => by
    rcases List.mem_append.1 hq with hq | hq
    · exact h q hq
    · simp at hq; subst hq; exact hp
  have i64 : ∀ v : Int, -1000000 ≤ v → v ≤ 1000000 → inI64 v := fun v a b => by unfold inI64; omega
  refine M.TC_bind (Mid := fun (r : Int × Int × List TPlace × Int) => Src code ⟨code, r.1, r.2.1⟩ ∧ (∀ q ∈ r.2.2.1, okTPlace q) ∧ r.2.2.1.length ≤ 9) (M.TC_loop (fun (r : Int × Int × List TPlace × Int) => Src code ⟨code, r.1, r.2.1⟩ ∧ (∀ q ∈ r.2.2.1, okTPlace q) ∧ 0 ≤ r.2.2.2 ∧ (r.2.2.1.length : Int) + r.2.2.2 ≤ 9) (fun r => r.2.2.2.toNat) _ ⟨hy.1.mk' rfl, by simp, by simp only; omega, by simp only [List.length_nil]; omega⟩ fun r hI => ?_) fun r hr => ?_
  · obtain ⟨h1, h2, h3, h4⟩ := hI
    refine M.TC_ite (fun t => ?_) (fun t => M.TC_ret (.inr ⟨_, rfl, h1, h2, by simp only; omega⟩))
    have t : 0 < r.2.2.2 := by simpa using t
    refine M.TC_bind (Mid := fun (q : Int × Int × TPlace) => Src code ⟨code, q.1, q.2.1⟩ ∧ okTPlace q.2.2) ?_ fun q hq => ?_
    · refine M.TC_bind (next_ok hc h1 _ (by omega)) fun a ha => M.TC_bind (next_ok hc (ha.1.mk' rfl) _ (by omega)) fun b hb => M.TC_bind (next_ok hc (hb.1.mk' rfl) 12 (by omega)) fun d hd => M.TC_ret ⟨hd.1.mk' rfl, ?_⟩
      exact ⟨i64 _ (by simp only; omega) (by simp only; omega), i64 _ (by simp only; omega) (by simp only; omega), i64 _ (by simp only; omega) (by simp only; omega), i64 _ (by simp) (by simp)⟩
    · refine M.TC_bind (Mid := fun (q : Int × Int × Bool) => Src code ⟨code, q.1, q.2.1⟩) (M.TC_ite (fun _ => M.TC_ret hq.1) (fun _ => M.TC_bind (next_ok hc hq.1 4 (by omega)) fun d hd => M.TC_ret (hd.1.mk' rfl))) fun u hu => ?_
      refine M.TC_bind (Mid := fun (q : Int × Int × TPlace) => Src code ⟨code, q.1, q.2.1⟩ ∧ okTPlace q.2.2) (M.TC_ite (fun _ => M.TC_bind (next_ok hc hu 2 (by omega)) fun d hd => M.TC_bind (next_ok hc (hd.1.mk' rfl) 3 (by omega)) fun e he => M.TC_ret ⟨he.1.mk' rfl, hq.2.1, hq.2.2.1, hq.2.2.2.1, w64_bd _⟩) (fun _ => M.TC_ret ⟨hu, hq.2⟩)) fun v hv => ?_
      refine M.TC_bind (next_ok hc hv.1 30 (by omega)) fun d hd => M.TC_bind (Mid := okTPlace) (M.TC_ite (fun _ => M.TC_ret ⟨hv.2.1, hv.2.2.1, hv.2.2.2.1, i64 _ (by simp) (by simp)⟩) (fun _ => M.TC_ret hv.2)) fun p hp => ?_
      refine M.TC_bindC (M.Conv_app (by simp; omega)) (M.TC_ret (.inl ⟨_, rfl, ⟨hd.1.mk' rfl, snoc h2 hp, ?_, ?_⟩, ?_⟩))
      · simp only; rw [w64_eq _ (by omega)]; omega
      · simp only [List.length_append, List.length_cons, List.length_nil]; rw [w64_eq _ (by omega)]; omega
      · simp only; rw [w64_eq _ (by omega)]; omega
  · obtain ⟨h1, h2, h3⟩ := hr
    refine M.TC_bind (next_ok hc h1 60 (by omega)) fun z hz => ?_
    refine M.TC_bind (Mid := fun (q : Int × List TPlace × Int × Int) => ((-1 ≤ q.1 ∧ q.1 ≤ 11) ∧ (∀ p ∈ q.2.1, okTPlace p) ∧ q.2.1.length ≤ 40) ∧ Src code ⟨code, q.2.2.1, q.2.2.2⟩) ?_ fun q hq => M.TC_ret ⟨⟨⟨i64 _ (by have := hq.1.1; simp only; omega) (by have := hq.1.1; simp only; omega), by have := hq.1.2.2; simp only; omega, hq.1.2.1⟩, hq.1.2.2⟩, hq.1.1, hq.2.mk' rfl⟩
    refine M.TC_ite (fun _ => ?_) (fun _ => M.TC_ite (fun _ => ?_) (fun _ => M.TC_ite (fun _ => ?_) (fun _ => M.TC_ite (fun _ => ?_) (fun _ => M.TC_ret ⟨⟨by simp only; omega, h2, by simp only; omega⟩, hz.1.mk' rfl⟩))))
    · exact M.TC_bind (pick_ok hc (hz.1.mk' rfl) _ (by simp) (by simp) (fun v => -1 ≤ v ∧ v ≤ 11) (by simp)) fun a ha => M.TC_ret ⟨⟨ha.2, h2, by simp only; omega⟩, ha.1.mk' rfl⟩
    · refine M.TC_bind (Mid := fun (q : List TPlace × Int × Int) => ((∀ p ∈ q.1, okTPlace p) ∧ q.1.length ≤ 10) ∧ Src code ⟨code, q.2.1, q.2.2⟩) ?_ fun q hq => M.TC_ret ⟨⟨by simp only; omega, hq.1.1, by have := hq.1.2; simp only; omega⟩, hq.2⟩
      refine M.TC_bind (pick_ok hc (hz.1.mk' rfl) _ (by simp) (by simp) inI64 (by simp [inI64]; omega)) fun a ha => M.TC_bind (pick_ok hc (ha.1.mk' rfl) _ (by simp) (by simp) inI64 (by simp [inI64])) fun b hb => M.TC_bindC (M.Conv_app (by simp; omega)) (M.TC_ret ⟨⟨snoc h2 ⟨ha.2, i64 _ (by simp) (by simp), hb.2, i64 _ (by simp) (by simp)⟩, by simp; omega⟩, hb.1.mk' rfl⟩)
    · exact M.TC_bind (pick_ok hc (hz.1.mk' rfl) _ (by simp) (by simp) inI64 (by simp [inI64])) fun a ha => M.TC_bindC (M.Conv_app (by simp; omega)) (M.TC_ret ⟨⟨by simp only; omega, snoc h2 ⟨i64 _ (by simp) (by simp), i64 _ (by simp) (by simp), i64 _ (by simp) (by simp), ha.2⟩, by simp; omega⟩, ha.1.mk' rfl⟩)
    · refine M.TC_bind (Mid := fun (q : Int × Int × List TPlace × Int) => Src code ⟨code, q.1, q.2.1⟩ ∧ (∀ p ∈ q.2.2.1, okTPlace p) ∧ q.2.2.1.length ≤ 40) (M.TC_loop (fun (q : Int × Int × List TPlace × Int) => Src code ⟨code, q.1, q.2.1⟩ ∧ (∀ p ∈ q.2.2.1, okTPlace p) ∧ (0 ≤ q.2.2.2 ∧ q.2.2.2 ≤ 31) ∧ (q.2.2.1.length : Int) ≤ 9 + q.2.2.2) (fun q => (32 - q.2.2.2).toNat) _ ⟨hz.1.mk' rfl, h2, by simp, by simp only; omega⟩ fun q hI => ?_) fun q hq => M.TC_ret ⟨⟨by simp only; omega, hq.2.1, hq.2.2⟩, hq.1⟩
      obtain ⟨g1, g2, g3, g4⟩ := hI
      refine M.TC_bind (next_ok hc g1 9 (by omega)) fun a ha => M.TC_ite (fun t => ?_) (fun _ => M.TC_ret (.inr ⟨_, rfl, ha.1.mk' rfl, g2, by simp only; omega⟩))
      have t := of_decide_eq_true t
      rw [w64_eq _ (by omega)] at t
      refine M.TC_bindC (M.Conv_app (by simp; omega)) (M.TC_ret (.inl ⟨_, rfl, ⟨ha.1.mk' rfl, snoc g2 ⟨i64 _ (by simp) (by simp), i64 _ (by simp) (by simp), i64 _ (by simp only; omega) (by simp only; omega), i64 _ (by simp) (by simp)⟩, ?_, ?_⟩, ?_⟩))
      · simp only; rw [w64_eq _ (by omega)]; omega
      · simp only [List.length_append, List.length_cons, List.length_nil]; rw [w64_eq _ (by omega)]; omega
      · simp only; rw [w64_eq _ (by omega)]; omega
structure GrS (g : TGraph) : Prop where
  ok : okTGraph g
  len : g.Places.length ≤ 40
theorem GrS.sm {g : TGraph} (h : GrS g) : smG g := by have := h.len; simp only [smG, smP]; omega
theorem likeG_refl {g : TGraph} (h : smG g) : M.Conv (laws_likeGraphs9 g g) true := by
  simp only [smG, smP] at h
  unfold laws_likeGraphs9
  refine M.Conv_ite (fun t => by simp at t) (fun _ => M.Conv_bind (x := (Sum.inl (g.Places.length : Int) : Int ⊕ Bool)) ((Conv_while (l := g.Places) (fun _ _ => none) (.inl (g.Places.length : Int)) (fun i x hx => ?_) ?_).of ?_) (M.Conv_ret _))
  · have hi := (List.getElem?_eq_some_iff.1 hx).1
    have gx : M.Conv (M.idx g.Places (i : Int)) x := M.Conv_get (by omega) (by simpa using hx)
    refine M.Conv_ite (fun _ => M.Conv_bind gx (M.Conv_bind gx (M.Conv_ite (fun t => by simp at t) (fun _ => (M.Conv_ret _).of (by rw [w64_eq _ (by omega)]))))) (fun t => by have := of_decide_eq_false t; omega)
  · exact M.Conv_ite (fun t => by have := of_decide_eq_true t; omega) (fun _ => M.Conv_ret _)
  · have : ∀ (l : List TPlace) (i : Nat) (e : Int ⊕ Bool), runO (fun _ (_ : TPlace) => none) e i l = e := by
      intro l
      induction l with
      | nil => intro i e; rfl
      | cons x xs ih => intro i e; simp only [runO]; exact ih _ _
    exact this _ _ _
namespace M
end M

section
variable {a : List (List Int)} {l : List Nat} {W : Int} {r : TRatio} {S : List (List Int)}
end

def strB (l : List UInt8) : ByteArray := ⟨l.toArray⟩
theorem strB_app (a b : List UInt8) : strB a ++ strB b = strB (a ++ b) := by
  apply ByteArray.ext
  simp [strB]
theorem strB_size (l : List UInt8) : (strB l).size = l.length := rfl
theorem wrap8 {m : Int} (h : 0 ≤ m ∧ m ≤ 255) : IntKind.u8.wrap m = m := by
  simp [IntKind.wrap, IntKind.signed, IntKind.bits]; omega
theorem toS_one {m : Int} {u : Nat} (h : m = 48 + u) (hu : u < 10) : toS [(IntKind.u8.wrap (w64 m))] = strB [UInt8.ofNat (48 + u)] := by
  rw [w64_eq _ (by omega), wrap8 (by omega)]
  have : m.toNat = 48 + u := by omega
  simp only [toS, List.foldl_cons, List.foldl_nil, this]
  rfl
theorem digits_len : ∀ u : Nat, (Lib.decDigits u).length ≤ u + 1 := by
  intro u
  induction u using Nat.strongRecOn with
  | _ u ih =>
    rw [Lib.decDigits]
    split
    · simp
    · have := ih (u / 10) (by omega)
      rw [List.length_append, List.length_singleton]; omega
theorem digits_pos (u : Nat) : 1 ≤ (Lib.decDigits u).length := by
  rw [Lib.decDigits]
  split <;> simp
theorem cat_ok {a b : List UInt8} (h : a.length + b.length ≤ 1000000000) : M.Conv (M.cat (strB a) (strB b)) (strB (a ++ b)) := by
  rw [← strB_app]
  exact M.Conv_cat (by rw [strB_size, strB_size]; omega)
theorem tdiv10 (u : Nat) : (u : Int).tdiv 10 = ((u / 10 : Nat) : Int) := rfl
theorem tmod10 (u : Nat) : (u : Int).tmod 10 = ((u % 10 : Nat) : Int) := rfl
theorem cat_gen {a b : ByteArray} (n : Nat) (h : ((a.size + b.size : Nat) : Int) ≤ 9223372036854775807) : M.cat a b n = some (a ++ b) := by
  unfold M.cat
  rw [decide_eq_true h]; rfl
theorem cat_run {a b : List UInt8} (n : Nat) (h : a.length + b.length ≤ 1000000000) : M.cat (strB a) (strB b) n = some (strB (a ++ b)) := by
  have h2 : (((strB a).size + (strB b).size : Nat) : Int) ≤ 9223372036854775807 := by rw [strB_size, strB_size]; omega
  rw [cat_gen n h2, strB_app]
theorem digits_next {u : Nat} (h : ¬ u < 10) : Lib.decDigits u = Lib.decDigits (u / 10) ++ [UInt8.ofNat (48 + u % 10)] := by rw [Lib.decDigits, dif_neg h]
theorem dec_one (k n : Nat) {x : Int} (h : x < 10) : spec_l01Dec_R (k + 1) x n = some (toS [(IntKind.u8.wrap (w64 (48 + x)))]) := by
  simp only [spec_l01Dec_R, M.ite, M.ret]
  rw [decide_eq_true h, cond_true]
theorem bind_eq {α β : Type} {m : M α} {f : α → M β} {n : Nat} {x : α} (h : m n = some x) : M.bind m f n = f x n := by
  unfold M.bind
  rw [h]
theorem ite_eq {α : Type} {b : Bool} {x y : M α} {n : Nat} (h : b = false) : M.ite b x y n = y n := by subst h; rfl
theorem dec_more (k n : Nat) {x : Int} {b r : ByteArray} (h : ¬ x < 10) (h1 : spec_l01Dec_R k (w64 (x.tdiv 10)) n = some b) (h2 : M.cat b (toS [(IntKind.u8.wrap (w64 (48 + (x.tmod 10))))]) n = some r) : spec_l01Dec_R (k + 1) x n = some r := by
  rw [spec_l01Dec_R, ite_eq (decide_eq_false h), bind_eq h1, bind_eq h2]
  rfl
theorem dec_R (u : Nat) : ∀ k n, u ≤ 1000000 → u + 1 ≤ k → spec_l01Dec_R k (u : Int) n = some (strB (Lib.decDigits u)) := by
  induction u using Nat.strongRecOn with
  | _ u ih =>
    intro k n hu hk
    obtain ⟨k, rfl⟩ : ∃ q, k = q + 1 := ⟨k - 1, by omega⟩
    by_cases h : u < 10
    · rw [dec_one k n (by omega), toS_one rfl h, Lib.decDigits_one h]
    · have hl := digits_len (u / 10)
      refine dec_more k n (by omega) (b := strB (Lib.decDigits (u / 10))) ?_ ?_
      · rw [tdiv10, w64_eq _ (by omega)]
        exact ih (u / 10) (by omega) k n (by omega) (by omega)
      · rw [tmod10, toS_one rfl (by omega), cat_run n (by rw [List.length_singleton]; omega), ← digits_next h]
theorem l01Dec_ok {n : Int} (h : 0 ≤ n ∧ n ≤ 1000000) : M.Conv (spec_l01Dec n) (strB (Lib.decDigits n.toNat)) := by
  obtain ⟨u, rfl⟩ : ∃ u : Nat, n = u := ⟨n.toNat, by omega⟩
  exact ⟨u + 1, fun k hk => dec_R u k k (by omega) hk⟩
theorem decimal_ok {n : Int} (h : 0 ≤ n ∧ n ≤ 1000000) : M.Conv (impl_decimal n) (strB (Lib.decDigits n.toNat)) := by
  refine M.Conv_bind (M.Conv_bind (M.Conv_guard ?_) (M.Conv_ret _)) ((M.Conv_ret _).of ?_)
  · simp; omega
  · unfold Lib.itoa
    rw [if_neg (by omega)]; rfl
/-- the text of a place, and of the first places of a graph -/
def plT (p : TPlace) : List UInt8 := Lib.decDigits p.From.toNat ++ [62] ++ Lib.decDigits p.To.toNat ++ [58] ++ Lib.decDigits p.Delay.toNat ++ [42] ++ Lib.decDigits p.Tokens.toNat
def grT (e : Int) : List TPlace → List UInt8
  | [] => Lib.decDigits e.toNat
  | l => Lib.decDigits e.toNat ++ (l.map fun p => 32 :: plT p).flatten
theorem grT_eq (e : Int) (l : List TPlace) : grT e l = Lib.decDigits e.toNat ++ (l.map fun p => 32 :: plT p).flatten := by
  cases l with
  | nil => simp [grT]
  | cons x t => rfl
structure PlG (e : Int) (p : TPlace) : Prop where
  from_ : 0 ≤ p.From ∧ p.From ≤ 10
  to_ : 0 ≤ p.To ∧ p.To ≤ 10
  del : 0 ≤ p.Delay ∧ p.Delay ≤ 1000
  tok : 0 ≤ p.Tokens ∧ p.Tokens ≤ 5
theorem graph_good {g : TGraph} (h : graphB g = true) : (1 ≤ g.Events ∧ g.Events ≤ 10) ∧ g.Places.length ≤ 30 ∧ ∀ p ∈ g.Places, PlG g.Events p := by
  simp only [graphB, Bool.and_eq_true, inB, decide_eq_true_eq, List.all_eq_true] at h
  obtain ⟨⟨h1, h2⟩, h3⟩ := h
  refine ⟨h1, h2, fun p hp => ?_⟩
  have := h3 p hp
  simp only [placeB, inB, Bool.and_eq_true, decide_eq_true_eq] at this
  rw [w64_eq _ (by omega)] at this
  obtain ⟨⟨⟨a, b⟩, c⟩, d⟩ := this
  exact ⟨by omega, by omega, by omega, by omega⟩
theorem plT_len {e : Int} {p : TPlace} (h : PlG e p) : (plT p).length ≤ 5000 := by
  obtain ⟨a, b, c, d⟩ := h
  have h1 := digits_len p.From.toNat
  have h2 := digits_len p.To.toNat
  have h3 := digits_len p.Delay.toNat
  have h4 := digits_len p.Tokens.toNat
  unfold plT
  simp only [List.length_append, List.length_singleton]
  omega
theorem flat_len2 {e : Int} : ∀ {l : List TPlace}, (∀ p ∈ l, PlG e p) → ((l.map fun p => 32 :: plT p).flatten).length ≤ 5001 * l.length
  | [], _ => by simp
  | x :: t, h => by
    have h1 := plT_len (h x (by simp))
    have h2 := flat_len2 (l := t) fun p hp => h p (by simp [hp])
    simp only [List.map_cons, List.flatten_cons, List.length_append, List.length_cons]
    omega
theorem grT_len {e : Int} {l : List TPlace} (he : e ≤ 10) (hl : l.length ≤ 30) (h : ∀ p ∈ l, PlG e p) : (grT e l).length ≤ 200000 := by
  rw [grT_eq, List.length_append]
  have := digits_len e.toNat
  have := flat_len2 h
  omega
theorem grT_snoc (e : Int) (l : List TPlace) (p : TPlace) : grT e (l ++ [p]) = grT e l ++ (32 :: plT p) := by
  rw [grT_eq, grT_eq]
  simp [List.map_append]
theorem placeText_ok {e : Int} {p : TPlace} (h : PlG e p) : M.Conv (impl_placeText p) (strB (plT p)) := by
  have hp := plT_len h
  obtain ⟨a, b, c, d⟩ := h
  have h1 := digits_len p.From.toNat
  have h2 := digits_len p.To.toNat
  have h3 := digits_len p.Delay.toNat
  have h4 := digits_len p.Tokens.toNat
  unfold impl_placeText
  refine M.Conv_bind (decimal_ok (by omega)) (M.Conv_bind (cat_ok (b := [62]) (by simp; omega)) (M.Conv_bind (decimal_ok (by omega)) (M.Conv_bind (cat_ok (by simp; omega)) (M.Conv_bind (cat_ok (b := [58]) (by simp; omega)) (M.Conv_bind (decimal_ok (by omega)) (M.Conv_bind (cat_ok (by simp; omega)) (M.Conv_bind (cat_ok (b := [42]) (by simp; omega)) (M.Conv_bind (decimal_ok (by omega)) (M.Conv_bind (cat_ok (by simp; omega)) (M.Conv_ret _))))))))))
theorem text_Two (g : TGraph) (s : smG g) : Two (spec_GraphText g) (impl_GraphText g) (fun w => (graphB g = false ∧ w = strB []) ∨ (graphB g = true ∧ w = strB (grT g.Events g.Places))) := by
  have hs := s
  simp only [smG, smP] at hs
  cases hg : graphB g with
  | false =>
    refine Two.mk (r := strB []) ?_ ?_ (.inl ⟨rfl, rfl⟩)
    · exact M.Conv_bind (spec_IsEventGraph_ok (by omega)) (M.Conv_ite (fun _ => M.Conv_ret _) (fun t => by rw [hg] at t; cases t))
    · exact M.Conv_bind (impl_IsEventGraph_ok (by omega)) (M.Conv_ite (fun _ => M.Conv_ret _) (fun t => by rw [hg] at t; cases t))
  | true =>
    obtain ⟨he, hl, hp⟩ := graph_good hg
    have htk : ∀ k, (grT g.Events (g.Places.take k)).length ≤ 200000 := fun k => grT_len (by omega) (by rw [List.length_take]; omega) fun p hp' => hp p (List.mem_of_mem_take hp')
    refine Two.mk (r := strB (grT g.Events g.Places)) ?_ ?_ (.inr ⟨rfl, rfl⟩)
    · unfold spec_GraphText
      refine M.Conv_bind (spec_IsEventGraph_ok (by omega)) (M.Conv_ite (fun t => by rw [hg] at t; cases t) (fun _ => M.Conv_bind (l01Dec_ok (by omega)) (M.Conv_bind (x := (strB (grT g.Events g.Places), (g.Places.length : Int))) ?_ (M.Conv_ret _))))
      apply M.TC.conv
      refine M.TC_loop (fun (w : ByteArray × Int) => ∃ k : Nat, w.2 = k ∧ k ≤ g.Places.length ∧ w.1 = strB (grT g.Events (g.Places.take k))) (fun w => ((g.Places.length : Int) - w.2).toNat) _ ⟨0, rfl, by omega, rfl⟩ fun w hI => ?_
      obtain ⟨k, ek, hk, e1⟩ := hI
      obtain ⟨b, idx⟩ := w
      (try simp only at ek e1 ⊢)
      subst ek
      subst e1
      refine M.TC_ite (fun t => ?_) (fun t => M.TC_ret (.inr ⟨_, rfl, ?_⟩))
      · have hk' : k < g.Places.length := by have := of_decide_eq_true t; omega
        have hx := List.getElem?_eq_getElem hk'
        have hpx := hp _ (List.getElem_mem hk')
        generalize g.Places[k] = p at hx hpx
        have etk : g.Places.take (k + 1) = g.Places.take k ++ [p] := by rw [List.take_add_one, hx]; rfl
        have h0 := htk k
        obtain ⟨a, b, c, d⟩ := hpx
        have h1 := digits_len p.From.toNat
        have h2 := digits_len p.To.toNat
        have h3 := digits_len p.Delay.toNat
        have h4 := digits_len p.Tokens.toNat
        refine M.TC_bindC (M.Conv_idx hx) (M.TC_bindC (cat_ok (b := [32]) (by simp; omega)) (M.TC_bindC (l01Dec_ok (by omega)) (M.TC_bindC (cat_ok (by simp; omega)) (M.TC_bindC (cat_ok (b := [62]) (by simp; omega)) (M.TC_bindC (l01Dec_ok (by omega)) (M.TC_bindC (cat_ok (by simp; omega)) (M.TC_bindC (cat_ok (b := [58]) (by simp; omega)) (M.TC_bindC (l01Dec_ok (by omega)) (M.TC_bindC (cat_ok (by simp; omega)) (M.TC_bindC (cat_ok (b := [42]) (by simp; omega)) (M.TC_bindC (l01Dec_ok (by omega)) (M.TC_bindC (cat_ok (by simp; omega)) (M.TC_ret (.inl ⟨_, rfl, ⟨k + 1, ?_, by omega, ?_⟩, ?_⟩))))))))))))))
        · (try simp only); rw [w64_eq _ (by omega)]; omega
        · (try simp only)
          rw [etk, grT_snoc]
          congr 1
          simp [plT]
        · (try simp only); rw [w64_eq _ (by omega)]; omega
      · have : k = g.Places.length := by have := of_decide_eq_false t; omega
        rw [this, List.take_length]
    · unfold impl_GraphText
      refine M.Conv_bind (impl_IsEventGraph_ok (by omega)) (M.Conv_ite (fun t => by rw [hg] at t; cases t) (fun _ => M.Conv_bind (decimal_ok (by omega)) (M.Conv_bind (x := strB (grT g.Events g.Places)) ?_ (M.Conv_ret _))))
      have := Conv_forV (n := g.Places.length) (f := fun i1 => (fun (s1 : ByteArray) => M.bind (M.idx g.Places i1) (fun x4 => M.bind (impl_placeText x4) (fun x5 => M.bind (M.cat (⟨#[32]⟩ : ByteArray) x5) (fun x6 => M.bind (M.cat s1 x6) (fun x7 => M.ret (.inl x7))))))) (fun k => strB (grT g.Events (g.Places.take k))) (by omega) (fun k hk => by
        have hx := List.getElem?_eq_getElem hk
        have hpx := hp _ (List.getElem_mem hk)
        generalize g.Places[k] = p at hx hpx
        have etk : g.Places.take (k + 1) = g.Places.take k ++ [p] := by rw [List.take_add_one, hx]; rfl
        have h0 := htk k
        have h1 := plT_len hpx
        refine M.Conv_bind (M.Conv_idx hx) (M.Conv_bind (placeText_ok hpx) (M.Conv_bind (cat_ok (a := [32]) (by simp; omega)) (M.Conv_bind (cat_ok (by simp; omega)) ((M.Conv_ret _).of ?_))))
        rw [etk, grT_snoc]; rfl)
      rw [List.take_length] at this
      exact this
def spl (c : UInt8) : List UInt8 → List (List UInt8)
  | [] => [[]]
  | b :: t => if b = c then [] :: spl c t else (b :: (spl c t).headD []) :: (spl c t).tail
theorem spl_hit (c : UInt8) (t : List UInt8) : spl c (c :: t) = [] :: spl c t := by rw [spl, if_pos rfl]
theorem spl_step {b c : UInt8} (h : b ≠ c) (t : List UInt8) : spl c (b :: t) = (b :: (spl c t).headD []) :: (spl c t).tail := by rw [spl, if_neg h]
theorem spl_ne (c : UInt8) (l : List UInt8) : spl c l ≠ [] := by
  cases l with
  | nil => simp [spl]
  | cons b t => rw [spl]; split <;> simp
theorem spl_no {c : UInt8} : ∀ {a : List UInt8}, c ∉ a → spl c a = [a]
  | [], _ => rfl
  | b :: t, h => by
    have h1 : b ≠ c := fun e => h (by simp [e])
    rw [spl_step h1, spl_no (a := t) fun q => h (by simp [q])]; rfl
theorem spl_app {c : UInt8} : ∀ {a : List UInt8} (t : List UInt8), c ∉ a → spl c (a ++ c :: t) = a :: spl c t
  | [], t, _ => spl_hit c t
  | b :: a, t, h => by
    have h1 : b ≠ c := fun e => h (by simp [e])
    rw [List.cons_append, spl_step h1, spl_app (a := a) t fun q => h (by simp [q])]; rfl
theorem spl_cons_head (c : UInt8) (l : List UInt8) : spl c l = (spl c l).headD [] :: (spl c l).tail := by
  have := spl_ne c l
  cases h : spl c l with
  | nil => exact absurd h this
  | cons x t => rfl
/-- put together again -/
theorem spl_join (c : UInt8) : ∀ l : List UInt8, (spl c l).headD [] ++ ((spl c l).tail.map fun w => c :: w).flatten = l
  | [] => rfl
  | b :: t => by
    have ih := spl_join c t
    by_cases h : b = c
    · subst h
      rw [spl_hit]
      show [] ++ ((spl b t).map fun w => b :: w).flatten = _
      conv => rhs; rw [← ih]
      rw [spl_cons_head b t]
      rfl
    · rw [spl_step h]
      show (b :: (spl c t).headD []) ++ (((spl c t).tail).map fun w => c :: w).flatten = _
      rw [List.cons_append, ih]
theorem spl_len (c : UInt8) : ∀ l : List UInt8, (spl c l).length ≤ l.length + 1
  | [] => by simp [spl]
  | b :: t => by
    have ih := spl_len c t
    by_cases h : b = c
    · subst h; rw [spl_hit]; simp; omega
    · rw [spl_step h]
      have := spl_cons_head c t
      have h2 : (spl c t).length = (spl c t).tail.length + 1 := by rw [this]; simp
      simp; omega
theorem mem_part {c : UInt8} : ∀ {l : List UInt8}, c ∈ l → ∃ a t, c ∉ a ∧ l = a ++ c :: t
  | [], h => by cases h
  | b :: l, h => by
    by_cases e : b = c
    · exact ⟨[], l, by simp, by rw [e]; rfl⟩
    · have : c ∈ l := by
        rcases List.mem_cons.1 h with h | h
        · exact absurd h.symm e
        · exact h
      obtain ⟨a, t, h1, rfl⟩ := mem_part this
      exact ⟨b :: a, t, by simp only [List.mem_cons, not_or]; exact ⟨fun q => e q.symm, h1⟩, rfl⟩
theorem index_no {c : UInt8} {l : List UInt8} (h : c ∉ l) : Lib.index l [c] = -1 := by
  rw [Lib.index_one]
  induction l with
  | nil => rfl
  | cons b t ih =>
    have h1 : (b == c) = false := by simpa using fun e => h (by simp [e])
    rw [Lib.indexByte, ih fun q => h (by simp [q]), h1]; rfl
theorem index_at {c : UInt8} {a : List UInt8} (t : List UInt8) (h : c ∉ a) : Lib.index (a ++ c :: t) [c] = a.length := by
  rw [Lib.index_one]
  induction a with
  | nil => simp [Lib.indexByte]
  | cons b a ih =>
    have h1 : (b == c) = false := by simpa using fun e => h (by simp [e])
    have h2 := ih fun q => h (by simp [q])
    have h3 : (Lib.indexByte (a ++ c :: t) c == -1) = false := by rw [h2]; simp
    rw [List.cons_append, Lib.indexByte, h1, h3, h2]
    simp
theorem cut_no {c : UInt8} {l : List UInt8} (h : c ∉ l) : Lib.cut l [c] = (l, [], false) := by
  unfold Lib.cut
  rw [index_no h]; rfl
theorem cut_at {c : UInt8} {a : List UInt8} (t : List UInt8) (h : c ∉ a) : Lib.cut (a ++ c :: t) [c] = (a, t, true) := by
  unfold Lib.cut
  rw [index_at t h, if_pos (by omega)]
  have e : ((a.length : Nat) : Int).toNat = a.length := by omega
  rw [e]
  simp
theorem splitK_spl (c : UInt8) : ∀ (n : Nat) (l : List UInt8), l.length ≤ n → Lib.splitK [c] 0 (Lib.count l [c]) l = spl c l
  | n, l, hn => by
    by_cases h : c ∈ l
    · obtain ⟨a, t, ha, rfl⟩ := mem_part h
      have hi := index_at t ha
      have e : (a ++ c :: t).drop (a.length + [c].length) = t := by simp
      rw [Lib.count_hit (by simp) hi, e, Nat.add_comm 1, Lib.splitK, hi, if_neg (by simp)]
      have e2 : ((a.length : Nat) : Int).toNat = a.length := by omega
      rw [e2, e]
      cases n with
      | zero => simp at hn
      | succ n =>
        rw [splitK_spl c n t (by simp at hn; omega), spl_app t ha]
        simp
    · rw [Lib.count_miss (index_no h)]
      rw [spl_no h]; rfl
theorem splitB_spl (c : UInt8) (l : List UInt8) : Lib.splitB (strB [c]) 0 (Lib.countB (strB l) (strB [c])) (strB l) = (spl c l).map strB := by
  have h : (Lib.splitB (strB [c]) 0 (Lib.countB (strB l) (strB [c])) (strB l)).map (·.data.toList) = spl c l := by
    rw [Lib.splitB_data]
    exact splitK_spl c l.length l (Nat.le_refl _)
  rw [← h, List.map_map]
  conv => lhs; rw [← List.map_id (Lib.splitB _ _ _ _)]
  refine List.map_congr_left fun x _ => ?_
  simp [strB]
theorem digit_toNat {u : Nat} (h : u < 10) : (UInt8.ofNat (48 + u)).toNat = 48 + u := by
  simp [UInt8.toNat_ofNat']; omega
def isDig (b : UInt8) : Bool := decide (48 ≤ b.toNat) && decide (b.toNat ≤ 57)
theorem digits_all : ∀ u : Nat, (Lib.decDigits u).all isDig = true := by
  intro u
  induction u using Nat.strongRecOn with
  | _ u ih =>
    by_cases h : u < 10
    · rw [Lib.decDigits_one h]
      simp [isDig, digit_toNat h]; omega
    · rw [digits_next h, List.all_append, ih (u / 10) (by omega)]
      simp [isDig, digit_toNat (Nat.mod_lt u (by decide : 0 < 10))]; omega
theorem digits_le : ∀ (k u : Nat), u < 10 ^ (k + 1) → (Lib.decDigits u).length ≤ k + 1
  | 0, u, h => by rw [Lib.decDigits_one (by simpa using h)]; simp
  | k + 1, u, h => by
    by_cases hu : u < 10
    · rw [Lib.decDigits_one hu]; simp
    · rw [digits_next hu, List.length_append, List.length_singleton]
      have := digits_le k (u / 10) (by rw [Nat.pow_succ] at h; omega)
      omega
theorem digits_mem {u : Nat} {b : UInt8} (h : b ∈ Lib.decDigits u) : 48 ≤ b.toNat ∧ b.toNat ≤ 57 := by
  have := List.all_eq_true.1 (digits_all u) b h
  simpa [isDig] using this
theorem digits_not {u : Nat} {c : UInt8} (h : c.toNat < 48 ∨ 57 < c.toNat) : c ∉ Lib.decDigits u := fun q => by
  have := digits_mem q
  omega
/-- the number that digits spell -/
def digV (l : List UInt8) : Nat := l.foldl (fun a b => 10 * a + (b.toNat - 48)) 0
theorem digV_digits (u : Nat) : digV (Lib.decDigits u) = u := by
  induction u using Nat.strongRecOn with
  | _ u ih =>
    by_cases h : u < 10
    · rw [Lib.decDigits_one h]
      show 10 * 0 + ((UInt8.ofNat (48 + u)).toNat - 48) = u
      rw [digit_toNat h]; omega
    · rw [digits_next h]
      unfold digV
      rw [List.foldl_append]
      show 10 * digV (Lib.decDigits (u / 10)) + ((UInt8.ofNat (48 + u % 10)).toNat - 48) = u
      rw [ih (u / 10) (by omega), digit_toNat (Nat.mod_lt u (by decide : 0 < 10))]
      omega
theorem digV_lt : ∀ (l : List UInt8) (a : Nat), l.all isDig = true → l.foldl (fun a b => 10 * a + (b.toNat - 48)) a < (a + 1) * 10 ^ l.length
  | [], a, _ => by simp
  | b :: t, a, h => by
    rw [List.all_cons, Bool.and_eq_true] at h
    have h1 := h.1
    simp only [isDig, Bool.and_eq_true, decide_eq_true_eq] at h1
    have := digV_lt t (10 * a + (b.toNat - 48)) h.2
    rw [List.foldl_cons]
    refine Nat.lt_of_lt_of_le this ?_
    rw [List.length_cons, Nat.pow_succ, Nat.mul_comm (10 ^ t.length) 10, ← Nat.mul_assoc]
    exact Nat.mul_le_mul_right _ (by omega)
theorem pU_digits (u : Nat) (hu : u ≤ 1000000) (r : List UInt8) : Lib.parseUintM 18446744073709551615 0 (Lib.decDigits u ++ r) = Lib.parseUintM 18446744073709551615 u r := by
  induction u using Nat.strongRecOn generalizing r with
  | _ u ih =>
    by_cases h : u < 10
    · rw [Lib.decDigits_one h, List.singleton_append, Lib.parseUintM, digit_toNat h, if_pos (by omega), if_neg (by omega), if_neg (by omega)]
      congr 1; omega
    · rw [digits_next h, List.append_assoc, ih (u / 10) (by omega) (by omega), List.singleton_append, Lib.parseUintM, digit_toNat (Nat.mod_lt u (by decide : 0 < 10)), if_pos (by omega), if_neg (by omega), if_neg (by omega)]
      congr 1; omega
theorem pI_digits {u : Nat} (hu : u ≤ 1000000) : Lib.parseIntB 64 (Lib.decDigits u) = .ok (u : Int) := by
  have hp := digits_pos u
  obtain ⟨c, r, e⟩ : ∃ c r, Lib.decDigits u = c :: r := by
    cases h : Lib.decDigits u with
    | nil => rw [h] at hp; simp at hp
    | cons c r => exact ⟨c, r, rfl⟩
  have hc := digits_mem (u := u) (b := c) (by rw [e]; simp)
  have key : Lib.parseUintB 64 (c :: r) = .ok u := by
    unfold Lib.parseUintB
    rw [if_neg (by simp), ← e]
    have := pU_digits u hu []
    rw [List.append_nil] at this
    exact this
  rw [e]
  unfold Lib.parseIntB
  simp only
  rw [if_neg (by omega), key]
  simp only
  rw [if_neg (by omega), if_neg (by omega), if_neg (by omega)]
theorem pI_range {l : List UInt8} {v : Int} (h : Lib.parseIntB 64 l = .ok v) : -9223372036854775808 ≤ v ∧ v ≤ 9223372036854775807 := by
  unfold Lib.parseIntB at h
  split at h
  · cases h
  · rename_i c r
    simp only at h
    split at h
    · cases h
    · cases h
    · rename_i u hu
      split at h
      · cases h
      · split at h
        · cases h
        · rename_i h1 h2
          simp only [Lib.NumEnd.ok.injEq] at h
          subst h
          have p : (2 : Nat) ^ (64 - 1) = 9223372036854775808 := by decide
          rw [p] at h1 h2
          split <;> omega
theorem itoa_pos {v : Int} (h : 0 ≤ v) : Lib.itoa v = Lib.decDigits v.toNat := by
  unfold Lib.itoa
  rw [if_neg (by omega)]

theorem strB_list (l : List UInt8) : (strB l).data.toList = l := by simp [strB]
theorem strB_get (l : List UInt8) (k : Nat) : (strB l)[k]? = l[k]? := by
  by_cases h : k < l.length
  · rw [List.getElem?_eq_getElem h, getElem?_pos (strB l) k (show k < (strB l).size from h)]; rfl
  · rw [List.getElem?_eq_none (by omega), getElem?_neg (strB l) k (show ¬ k < (strB l).size from h)]
theorem strB_sub (l : List UInt8) (a b : Nat) : (strB l).extract a b = strB ((l.take b).drop a) := by
  apply ByteArray.ext
  apply Array.toList_inj.1
  rw [Lib.extract_data]
  simp [strB, List.drop_take]
theorem toList_loop (s : ByteArray) : ∀ (k i : Nat) (r : List UInt8), s.size - i = k → ByteArray.toList.loop s i r = r.reverse ++ s.data.toList.drop i := by
  intro k
  induction k with
  | zero =>
    intro i r h
    rw [ByteArray.toList.loop, if_neg (by omega), List.drop_eq_nil_of_le (by simp; omega), List.append_nil]
  | succ k ih =>
    intro i r h
    have hi : i < s.size := by omega
    rw [ByteArray.toList.loop, if_pos hi, ih (i + 1) _ (by omega), List.reverse_cons, List.append_assoc]
    congr 1
    rw [List.drop_eq_getElem_cons (show i < s.data.toList.length by simpa using hi)]
    simp only [List.singleton_append, List.cons.injEq, and_true]
    rw [ByteArray.get!, getElem!_pos s.data i hi]
    simp
theorem toList_data (s : ByteArray) : s.toList = s.data.toList := by
  have := toList_loop s s.size 0 [] rfl
  simpa [ByteArray.toList] using this
theorem toList_strB (l : List UInt8) : (strB l).toList = l := by rw [toList_data, strB_list]
theorem Conv_sidx {l : List UInt8} {k : Nat} {b : UInt8} (h : l[k]? = some b) {i : Int} (e : i = k) : M.Conv (M.sidx (strB l) i) ((b.toNat : Nat) : Int) := by
  subst e
  refine ⟨0, fun _ _ => ?_⟩
  unfold M.sidx
  rw [decide_eq_true (by omega : (0 : Int) ≤ (k : Int)), cond_true, Int.toNat_natCast, strB_get, h]
  rfl
theorem Conv_ssub {l : List UInt8} {i j : Int} (h0 : 0 ≤ i) (h1 : i ≤ j) (h2 : j ≤ (l.length : Int)) : M.Conv (M.ssub (strB l) i j) (strB ((l.take j.toNat).drop i.toNat)) := by
  refine ⟨0, fun _ _ => ?_⟩
  unfold M.ssub
  rw [decide_eq_true h0, decide_eq_true h1, decide_eq_true (show j ≤ (((strB l).size : Nat) : Int) from h2), strB_sub]
  rfl
theorem l01Split_ok {l : List UInt8} {c : UInt8} {ci : Int} (ec : ci = (c.toNat : Nat)) (hl : l.length ≤ 1000000000) : M.Conv (spec_l01Split (strB l) ci) ((spl c l).map strB) := by
  subst ec
  unfold spec_l01Split
  refine M.Conv_bind (x := ((spl c l).map strB, ((l.length + 1 : Nat) : Int), ((l.length + 1 : Nat) : Int))) ?_ (M.Conv_ret _)
  apply M.TC.conv
  refine M.TC_loop (fun (w : List ByteArray × Int × Int) => ∃ (o : List (List UInt8)) (f i : Nat), w = (o.map strB, (f : Int), (i : Int)) ∧ o.length ≤ i ∧ ((i ≤ l.length ∧ f ≤ i ∧ spl c l = o ++ spl c (l.drop f) ∧ c ∉ (l.take i).drop f) ∨ (i = l.length + 1 ∧ f = i ∧ o = spl c l)))
    (fun w => ((l.length : Int) + 1 - w.2.2).toNat) _ ⟨[], 0, 0, rfl, by simp, .inl ⟨by omega, by omega, by simp, by simp⟩⟩ fun w hI => ?_
  obtain ⟨o, f, i, rfl, hol, hI⟩ := hI
  have sz : ((strB l).size : Int) = (l.length : Int) := rfl
  simp only [sz]
  refine M.TC_ite (fun t => ?_) (fun t => M.TC_ret (.inr ⟨_, rfl, ?_⟩))
  · have t := of_decide_eq_true t
    have hi : i ≤ l.length := by omega
    obtain ⟨_, hf, he, hn⟩ : i ≤ l.length ∧ f ≤ i ∧ spl c l = o ++ spl c (l.drop f) ∧ c ∉ (l.take i).drop f := by
      rcases hI with h | h
      · exact h
      · omega
    have ew : w64 ((i : Int) + 1) = ((i + 1 : Nat) : Int) := by rw [w64_eq _ (by omega)]; omega
    have hb : M.Conv (M.ite ((i : Int) == (l.length : Int)) (M.ret true) (M.bind (M.sidx (strB l) (i : Int)) (fun x3 => M.ret (x3 == ((c.toNat : Nat) : Int))))) (decide (i = l.length ∨ l[i]? = some c)) := by
      refine M.Conv_ite (fun q => (M.Conv_ret _).of ?_) (fun q => ?_)
      · have : i = l.length := by have := eq_of_beq q; omega
        rw [decide_eq_true (.inl this)]
      · have hne : i ≠ l.length := fun e => by subst e; simp at q
        have hlt : i < l.length := by omega
        refine M.Conv_bind (Conv_sidx (List.getElem?_eq_getElem hlt) rfl) ((M.Conv_ret _).of ?_)
        rw [List.getElem?_eq_getElem hlt]
        by_cases e : l[i] = c
        · rw [decide_eq_true (.inr (by rw [e])), e]; simp
        · rw [decide_eq_false (by simp [hne, e])]
          have : ¬ ((l[i].toNat : Nat) : Int) = ((c.toNat : Nat) : Int) := fun h => e (UInt8.toNat_inj.1 (by omega))
          simpa using this
    refine M.TC_bindC hb ?_
    by_cases hc : i = l.length ∨ l[i]? = some c
    · rw [decide_eq_true hc]
      refine M.TC_bindC (x := ((o ++ [(l.take i).drop f]).map strB, ((i + 1 : Nat) : Int))) (M.Conv_ite (fun _ => ?_) (fun q => by cases q)) (M.TC_ret (.inl ⟨_, rfl, ?_, ?_⟩))
      · refine M.Conv_bind (Conv_ssub (by omega) (by omega) (by omega)) (M.Conv_bind (M.Conv_app (by simp; omega)) ((M.Conv_ret _).of ?_))
        rw [ew]
        simp
      · simp only [ew]
        have hd : l.drop f = (l.take i).drop f ++ l.drop i := by
          conv => lhs; rw [← List.take_append_drop i l]
          rw [List.drop_append_of_le_length (by rw [List.length_take]; omega)]
        refine ⟨o ++ [(l.take i).drop f], i + 1, i + 1, rfl, by simp; omega, ?_⟩
        by_cases hil : i = l.length
        · refine .inr ⟨by omega, rfl, ?_⟩
          rw [he, hd, hil, List.drop_length, List.append_nil, spl_no (by rw [← hil]; exact hn)]
        · have hlt : i < l.length := by omega
          have hcc : l[i]? = some c := by rcases hc with h | h; exact absurd h hil; exact h
          refine .inl ⟨by omega, by omega, ?_, by rw [List.drop_eq_nil_of_le (by rw [List.length_take]; omega)]; simp⟩
          have hdi : l.drop i = c :: l.drop (i + 1) := by
            rw [List.drop_eq_getElem_cons hlt]
            rw [List.getElem?_eq_getElem hlt] at hcc
            rw [Option.some.inj hcc]
          rw [he, hd, hdi, spl_app _ hn, List.append_assoc]; rfl
      · simp only [ew]; omega
    · rw [decide_eq_false hc]
      refine M.TC_bindC (x := (o.map strB, (f : Int))) (M.Conv_ite (fun q => by cases q) (fun _ => M.Conv_ret _)) (M.TC_ret (.inl ⟨_, rfl, ?_, ?_⟩))
      · simp only [ew]
        have hlt : i < l.length := by
          have : i ≠ l.length := fun e => hc (.inl e)
          omega
        refine ⟨o, f, i + 1, rfl, by omega, .inl ⟨by omega, by omega, he, ?_⟩⟩
        rw [List.take_add_one, List.getElem?_eq_getElem hlt, List.drop_append_of_le_length (by rw [List.length_take]; omega)]
        simp only [Option.toList, List.mem_append, List.mem_singleton, not_or]
        exact ⟨hn, fun e => hc (.inr (by rw [List.getElem?_eq_getElem hlt, e]))⟩
      · simp only [ew]; omega
  · have t := of_decide_eq_false t
    rcases hI with ⟨h, _⟩ | ⟨h1, h2, h3⟩
    · omega
    · rw [h3, h2, h1]
theorem dec_R2 (u : Nat) : ∀ k n, u < 100000000000 → u + 1 ≤ k → spec_l01Dec_R k (u : Int) n = some (strB (Lib.decDigits u)) := by
  induction u using Nat.strongRecOn with
  | _ u ih =>
    intro k n hu hk
    obtain ⟨k, rfl⟩ : ∃ q, k = q + 1 := ⟨k - 1, by omega⟩
    by_cases h : u < 10
    · rw [dec_one k n (by omega), toS_one rfl h, Lib.decDigits_one h]
    · have hl := digits_le 10 (u / 10) (by omega)
      refine dec_more k n (by omega) (b := strB (Lib.decDigits (u / 10))) ?_ ?_
      · rw [tdiv10, w64_eq _ (by omega)]
        exact ih (u / 10) (by omega) k n (by omega) (by omega)
      · rw [tmod10, toS_one rfl (by omega), cat_run n (by rw [List.length_singleton]; omega), ← digits_next h]
theorem l01Dec_ok2 {u : Nat} (h : u < 100000000000) : M.Conv (spec_l01Dec (u : Int)) (strB (Lib.decDigits u)) := ⟨u + 1, fun k hk => dec_R2 u k k h hk⟩
def digP (l : List UInt8) : Int × Bool :=
  if l.length < 1 ∨ 10 < l.length then (0, false) else if l.all isDig then ((digV l : Int), decide (Lib.decDigits (digV l) = l)) else (0, false)
theorem l01Digits_ok (l : List UInt8) : M.Conv (spec_l01Digits (strB l)) (digP l) := by
  unfold spec_l01Digits digP
  have sz : ((strB l).size : Int) = (l.length : Int) := rfl
  rw [sz]
  by_cases hlen : l.length < 1 ∨ 10 < l.length
  · rw [if_pos hlen]
    refine M.Conv_ite (fun _ => M.Conv_ret _) (fun q => ?_)
    simp only [Bool.or_eq_false_iff, decide_eq_false_iff_not] at q
    omega
  · rw [if_neg hlen]
    refine M.Conv_ite (fun q => ?_) (fun _ => ?_)
    · simp only [Bool.or_eq_true, decide_eq_true_eq] at q
      omega
    · have loop : M.TC (M.forI (ρ := Int ⊕ (Int × Bool)) 0 (l.length : Int) (fun s => .inl s) (fun i1 => (fun (s1 : Int) => M.bind (M.sidx (strB l) i1) (fun x3 => M.bind (M.ite (decide (x3 < 48)) (M.ret true) (M.bind (M.sidx (strB l) i1) (fun x5 => M.ret (decide (57 < x5))))) (fun x4 => M.ite x4 (M.ret (.inr (.inr ((0 : Int), false)))) (M.bind (M.sidx (strB l) i1) (fun x6 => M.ret (.inl (w64 ((w64 (10 * s1)) + (w64 (IntKind.u8.wrap (x6 - 48)))))))))))) 0)
          (fun (r : Int ⊕ (Int × Bool)) => (l.all isDig = true ∧ r = .inl ((digV l : Nat) : Int)) ∨ (l.all isDig = false ∧ r = .inr ((0 : Int), false))) := by
        refine M.TC_for (fun i s => ∃ k : Nat, i = k ∧ k ≤ l.length ∧ (l.take k).all isDig = true ∧ s = ((digV (l.take k) : Nat) : Int)) 0 (by omega) (by omega) ⟨0, rfl, by omega, rfl, rfl⟩ ?_ ?_
        · rintro i s h0 h1 ⟨k, rfl, hk, ha, rfl⟩
          have hlt : k < l.length := by omega
          have hx := List.getElem?_eq_getElem hlt
          generalize l[k] = b at hx
          have etk : l.take (k + 1) = l.take k ++ [b] := by rw [List.take_add_one, hx]; rfl
          have hbound := digV_lt (l.take k) 0 ha
          have hp : (10 : Nat) ^ (l.take k).length ≤ 10 ^ 10 := Nat.pow_le_pow_right (by omega) (by rw [List.length_take]; omega)
          have hv : digV (l.take k) < 10000000000 := by unfold digV; omega
          refine M.TC_bindC (Conv_sidx hx rfl) ?_
          refine M.TC_bindC (x := !isDig b) ?_ ?_
          · refine M.Conv_ite (fun q => (M.Conv_ret _).of ?_) (fun q => M.Conv_bind (Conv_sidx hx rfl) ((M.Conv_ret _).of ?_))
            · have := of_decide_eq_true q
              rw [isDig, decide_eq_false (by omega : ¬ 48 ≤ b.toNat)]; rfl
            · have := of_decide_eq_false q
              rw [isDig, decide_eq_true (by omega : 48 ≤ b.toNat), Bool.true_and]
              by_cases h : b.toNat ≤ 57
              · rw [decide_eq_true h, decide_eq_false (by omega)]; rfl
              · rw [decide_eq_false h, decide_eq_true (by omega)]; rfl
          · refine M.TC_ite (fun q => M.TC_ret (.inr ⟨_, rfl, .inr ⟨?_, rfl⟩⟩)) (fun q => M.TC_bindC (Conv_sidx hx rfl) (M.TC_ret (.inl ⟨_, rfl, k + 1, by omega, by omega, ?_, ?_⟩)))
            · simp only [Bool.not_eq_true'] at q
              rw [List.all_eq_false]
              exact ⟨b, List.mem_of_getElem? hx, by rw [q]; simp⟩
            · rw [etk, List.all_append, ha]
              simp only [Bool.not_eq_false'] at q
              simp [q]
            · simp only [Bool.not_eq_false'] at q
              simp only [isDig, Bool.and_eq_true, decide_eq_true_eq] at q
              rw [wrap8 (by omega), w64_eq (10 * _) (by omega), w64_eq (_ - _) (by omega), w64_eq _ (by omega), etk]
              unfold digV
              rw [List.foldl_append]
              simp only [List.foldl_cons, List.foldl_nil]
              omega
        · rintro i s hd ⟨k, rfl, hk, ha, rfl⟩
          have : k = l.length := by omega
          subst this
          rw [List.take_length] at ha ⊢
          exact .inl ⟨ha, rfl⟩
      obtain ⟨r, hr, hp⟩ := loop
      refine M.Conv_bind hr ?_
      rcases hp with ⟨ha, rfl⟩ | ⟨ha, rfl⟩
      · rw [if_pos ha]
        have hbound := digV_lt l 0 ha
        have hp : (10 : Nat) ^ l.length ≤ 10 ^ 10 := Nat.pow_le_pow_right (by omega) (by omega)
        have hv : digV l < 10000000000 := by unfold digV; omega
        show M.Conv (M.bind (spec_l01Dec ((digV l : Nat) : Int)) (fun x7 => M.ret (((digV l : Nat) : Int), (x7.toList == (strB l).toList)))) _
        refine M.Conv_bind (l01Dec_ok2 (by omega)) ((M.Conv_ret _).of ?_)
        rw [toList_strB, toList_strB]
        congr 1
        by_cases h : Lib.decDigits (digV l) = l
        · rw [decide_eq_true h, h]; simp
        · rw [decide_eq_false h]; simpa using h
      · rw [if_neg (by rw [ha]; simp)]
        exact M.Conv_ret _
theorem digP_val (l : List UInt8) : 0 ≤ (digP l).1 ∧ (digP l).1 < 10000000000 := by
  unfold digP
  split
  · simp
  · split
    · rename_i h ha
      have hbound := digV_lt l 0 ha
      have hp : (10 : Nat) ^ l.length ≤ 10 ^ 10 := Nat.pow_le_pow_right (by omega) (by omega)
      have hv : digV l < 10000000000 := by unfold digV; omega
      simp only; omega
    · simp
def sgnP (l : List UInt8) : Int × Bool := if l.head? = some 45 then (-(digP l.tail).1, (digP l.tail).2 && decide (0 < (digP l.tail).1)) else digP l
theorem l01Signed_ok {l : List UInt8} (hl : l.length ≤ 1000000000) : M.Conv (spec_l01Signed (strB l)) (sgnP l) := by
  unfold spec_l01Signed sgnP
  have sz : ((strB l).size : Int) = (l.length : Int) := rfl
  rw [sz]
  refine M.Conv_bind (x := decide (l.head? = some 45)) ?_ ?_
  · refine M.Conv_ite (fun q => ?_) (fun q => (M.Conv_ret _).of ?_)
    · have q := of_decide_eq_true q
      obtain ⟨b, t, rfl⟩ : ∃ b t, l = b :: t := by
        cases l with
        | nil => simp at q
        | cons b t => exact ⟨b, t, rfl⟩
      refine M.Conv_bind (Conv_sidx (k := 0) rfl rfl) ((M.Conv_ret _).of ?_)
      by_cases h : b = 45
      · subst h; rfl
      · have h2 : ¬ (b :: t).head? = some 45 := fun e => h (Option.some.inj e)
        rw [decide_eq_false h2]
        have : ¬ ((b.toNat : Nat) : Int) = 45 := fun e => h (UInt8.toNat_inj.1 (by have : (45 : UInt8).toNat = 45 := rfl; omega))
        simpa using this
    · have q := of_decide_eq_false q
      have : l = [] := List.length_eq_zero_iff.1 (by omega)
      subst this; rfl
  · refine M.Conv_ite (fun q => ?_) (fun q => ?_)
    · have q := of_decide_eq_true q
      rw [if_pos q]
      obtain ⟨b, t, rfl⟩ : ∃ b t, l = b :: t := by
        cases l with
        | nil => simp at q
        | cons b t => exact ⟨b, t, rfl⟩
      have e : (List.take (((b :: t).length : Nat) : Int).toNat (b :: t)).drop (1 : Int).toNat = t := by
        rw [Int.toNat_natCast, List.take_length]; rfl
      refine M.Conv_bind (Conv_ssub (by omega) (by simp only [List.length_cons]; omega) (by omega)) ?_
      rw [e]
      refine M.Conv_bind (l01Digits_ok t) ((M.Conv_ret _).of ?_)
      have := digP_val t
      have e0 : (0 : Int) - (digP t).1 = -(digP t).1 := by omega
      rw [w64_eq _ (by omega), e0]
      rfl
    · have q := of_decide_eq_false q
      rw [if_neg q]
      exact M.Conv_bind (l01Digits_ok l) (M.Conv_ret _)
def numsP (ws : List (List UInt8)) : List Int × Bool := if ws.all (fun w => (sgnP w).2) then (ws.map (fun w => (sgnP w).1), true) else ([], false)
theorem l01Numbers_ok {ws : List (List UInt8)} (hw : ws.length ≤ 1000000000) (hl : ∀ w ∈ ws, w.length ≤ 1000000000) : M.Conv (spec_l01Numbers (ws.map strB)) (numsP ws) := by
  unfold spec_l01Numbers numsP
  have loop : M.TC (M.forI (ρ := List Int ⊕ (List Int × Bool)) 0 ((ws.map strB).length : Int) (fun s => .inl s) (fun i1 => (fun (s1 : (List Int)) => M.bind (M.idx (ws.map strB) i1) (fun x2 => M.bind (spec_l01Signed x2) (fun x3 => M.ite (!x3.2) (M.ret (.inr (.inr (([] : List Int), false)))) (M.bind (M.app s1 ([x3.1] : List Int)) (fun l1 => M.ret (.inl l1))))))) ([] : List Int))
      (fun (r : List Int ⊕ (List Int × Bool)) => (ws.all (fun w => (sgnP w).2) = true ∧ r = .inl (ws.map (fun w => (sgnP w).1))) ∨ (ws.all (fun w => (sgnP w).2) = false ∧ r = .inr (([] : List Int), false))) := by
    refine M.TC_for (fun i s => ∃ k : Nat, i = k ∧ k ≤ ws.length ∧ (ws.take k).all (fun w => (sgnP w).2) = true ∧ s = (ws.take k).map (fun w => (sgnP w).1)) [] (by omega) (by rw [List.length_map]; omega) ⟨0, rfl, by omega, rfl, rfl⟩ ?_ ?_
    · rintro i s h0 h1 ⟨k, rfl, hk, ha, rfl⟩
      rw [List.length_map] at h1
      have hlt : k < ws.length := by omega
      have hx := List.getElem?_eq_getElem hlt
      have hm := hl _ (List.getElem_mem hlt)
      generalize ws[k] = b at hx hm
      have etk : ws.take (k + 1) = ws.take k ++ [b] := by rw [List.take_add_one, hx]; rfl
      refine M.TC_bindC (M.Conv_idx (x := strB b) (by rw [List.getElem?_map, hx]; rfl)) (M.TC_bindC (l01Signed_ok hm) ?_)
      refine M.TC_ite (fun q => M.TC_ret (.inr ⟨_, rfl, .inr ⟨?_, rfl⟩⟩)) (fun q => M.TC_bindC (M.Conv_app (by rw [List.length_map, List.length_take]; simp; omega)) (M.TC_ret (.inl ⟨_, rfl, k + 1, by omega, by omega, ?_, ?_⟩)))
      · simp only [Bool.not_eq_true'] at q
        rw [List.all_eq_false]
        exact ⟨b, List.mem_of_getElem? hx, by rw [q]; simp⟩
      · rw [etk, List.all_append, ha]
        simp only [Bool.not_eq_false'] at q
        simp [q]
      · rw [etk]; simp
    · rintro i s hd ⟨k, rfl, hk, ha, rfl⟩
      rw [List.length_map] at hd
      have : k = ws.length := by omega
      subst this
      rw [List.take_length] at ha ⊢
      exact .inl ⟨ha, rfl⟩
  obtain ⟨r, hr, hp⟩ := loop
  refine M.Conv_bind hr ?_
  rcases hp with ⟨ha, rfl⟩ | ⟨ha, rfl⟩
  · rw [if_pos ha]; exact M.Conv_ret _
  · rw [if_neg (by rw [ha]; simp)]; exact M.Conv_ret _

def noPl : TPlace := ⟨0, 0, 0, 0⟩
def fourP (r : List Int × Bool) : TPlace × Bool := match r with
  | ([a, b, c, d], true) => (⟨a, b, c, d⟩, true)
  | _ => (noPl, false)
def l11P (w : List UInt8) : TPlace × Bool := match spl 62 w with
  | [a, r] => (match spl 58 r with
    | [b, t] => fourP (numsP (a :: b :: spl 42 t))
    | _ => (noPl, false))
  | _ => (noPl, false)
theorem spl_size {c : UInt8} {l : List UInt8} {n : Nat} (h : l.length ≤ n) : ∀ w ∈ spl c l, w.length ≤ n := by
  induction l with
  | nil => simp [spl]
  | cons b t ih =>
    have ih := ih (by simp at h; omega)
    have hd : ((spl c t).headD []).length ≤ t.length := by
      have := spl_join c t
      have := congrArg List.length this
      rw [List.length_append] at this
      omega
    intro w hw
    by_cases e : b = c
    · subst e
      rw [spl_hit] at hw
      rcases List.mem_cons.1 hw with rfl | hw
      · simp
      · exact ih w hw
    · rw [spl_step e] at hw
      rcases List.mem_cons.1 hw with rfl | hw
      · rw [List.length_cons] at h ⊢; omega
      · exact ih w (List.mem_of_mem_tail hw)
theorem spl_head_mem (c : UInt8) (l : List UInt8) : (spl c l).headD [] ∈ spl c l := by
  have := spl_ne c l
  cases h : spl c l with
  | nil => exact absurd h this
  | cons x t => simp
theorem two_or (l : List (List UInt8)) : (∃ a b, l = [a, b]) ∨ l.length ≠ 2 := by
  match l with
  | [a, b] => exact .inl ⟨a, b, rfl⟩
  | [] => exact .inr (by simp)
  | [a] => exact .inr (by simp)
  | a :: b :: c :: t => exact .inr (by simp)
theorem l11Read_ok {w : List UInt8} (hl : w.length ≤ 100000000) : M.Conv (spec_l11Read (strB w)) (l11P w) := by
  unfold spec_l11Read
  refine M.Conv_bind (l01Split_ok (c := 62) rfl (by omega)) ?_
  rcases two_or (spl 62 w) with ⟨a, r, e⟩ | hne
  · have hs := spl_size (c := 62) hl
    rw [e] at hs
    have ha := hs a (by simp)
    have hr := hs r (by simp)
    rw [e]
    refine M.Conv_ite (fun q => by simp at q) (fun _ => ?_)
    refine M.Conv_bind (M.Conv_idx (i := 1) (x := strB r) rfl) (M.Conv_bind (l01Split_ok (c := 58) rfl (by omega)) ?_)
    rcases two_or (spl 58 r) with ⟨b, t, e2⟩ | hne
    · have hs2 := spl_size (c := 58) hr
      rw [e2] at hs2
      have hb := hs2 b (by simp)
      have ht := hs2 t (by simp)
      rw [e2]
      refine M.Conv_ite (fun q => by simp at q) (fun _ => ?_)
      have hlen := spl_len 42 t
      have el : l11P w = fourP (numsP (a :: b :: spl 42 t)) := by unfold l11P; rw [e]; simp only; rw [e2]
      rw [el]
      refine M.Conv_bind (x := numsP (a :: b :: spl 42 t)) ?_ ?_
      · refine M.Conv_bind (M.Conv_idx (i := 0) (x := strB a) rfl) (M.Conv_bind (M.Conv_idx (i := 0) (x := strB b) rfl) (M.Conv_bind (M.Conv_idx (i := 1) (x := strB t) rfl) (M.Conv_bind (l01Split_ok (c := 42) rfl (by omega)) (M.Conv_bind (M.Conv_app (by simp; omega)) ?_))))
        exact M.Conv_bind (l01Numbers_ok (ws := a :: b :: spl 42 t) (by simp; omega) (fun w hw => by
          rcases List.mem_cons.1 hw with rfl | hw
          · omega
          · rcases List.mem_cons.1 hw with rfl | hw
            · omega
            · have := spl_size (c := 42) ht w hw; omega)) (M.Conv_ret _)
      · generalize numsP (a :: b :: spl 42 t) = s
        obtain ⟨l, ok⟩ := s
        cases ok with
        | false => exact M.Conv_ite (fun _ => (M.Conv_ret _).of (by unfold fourP; split <;> first | rfl | (rename_i h; cases h))) (fun q => by simp at q)
        | true =>
          match l with
          | [x0, x1, x2, x3] =>
            refine M.Conv_ite (fun q => by simp at q) (fun _ => ?_)
            exact M.Conv_bind (M.Conv_idx (i := 0) rfl) (M.Conv_bind (M.Conv_idx (i := 1) rfl) (M.Conv_bind (M.Conv_idx (i := 2) rfl) (M.Conv_bind (M.Conv_idx (i := 3) rfl) (M.Conv_ret _))))
          | [] => exact M.Conv_ite (fun _ => M.Conv_ret _) (fun q => by simp at q)
          | [x0] => exact M.Conv_ite (fun _ => M.Conv_ret _) (fun q => by simp at q)
          | [x0, x1] => exact M.Conv_ite (fun _ => M.Conv_ret _) (fun q => by simp at q)
          | [x0, x1, x2] => exact M.Conv_ite (fun _ => M.Conv_ret _) (fun q => by simp at q)
          | x0 :: x1 :: x2 :: x3 :: x4 :: t => exact M.Conv_ite (fun _ => M.Conv_ret _) (fun q => by simp at q; omega)
    · have el : l11P w = (noPl, false) := by
        unfold l11P; rw [e]; simp only
        split
        · rename_i h; rw [h] at hne; simp at hne
        · rfl
      rw [el]
      exact M.Conv_ite (fun _ => M.Conv_ret _) (fun q => by simp at q; omega)
  · have el : l11P w = (noPl, false) := by
      unfold l11P
      split
      · rename_i h; rw [h] at hne; simp at hne
      · rfl
    rw [el]
    exact M.Conv_ite (fun _ => M.Conv_ret _) (fun q => by simp at q; omega)
/-- from the first word's number and the other words' places -/
def finG (e : Int × Bool) (ps : List (TPlace × Bool)) : TGraph × Bool :=
  if (e.2 && ps.all (·.2)) && graphB ⟨e.1, ps.map (·.1)⟩ then (⟨e.1, ps.map (·.1)⟩, true) else (⟨0, []⟩, false)
theorem fin_ok {isG : TGraph → M Bool} (H : ∀ g : TGraph, g.Places.length ≤ 9223372036854775806 → M.Conv (isG g) (graphB g)) (e : Int × Bool) (ps : List (TPlace × Bool)) (hp : ps.length ≤ 1000000000) :
    M.Conv (M.bind (M.ite (!(e.2 && ps.all (·.2))) (M.ret true) (M.bind (isG (⟨e.1, ps.map (·.1)⟩ : TGraph)) (fun x9 => M.ret (!x9)))) (fun x8 => M.ite x8 (M.ret ((⟨0, []⟩ : TGraph), false)) (M.ret ((⟨e.1, ps.map (·.1)⟩ : TGraph), true)))) (finG e ps) := by
  refine M.Conv_bind (x := !((e.2 && ps.all (·.2)) && graphB ⟨e.1, ps.map (·.1)⟩)) ?_ ?_
  · refine M.Conv_ite (fun q => (M.Conv_ret _).of ?_) (fun q => M.Conv_bind (H _ (by simp; omega)) ((M.Conv_ret _).of ?_))
    · simp only [Bool.not_eq_true'] at q; rw [q]; rfl
    · simp only [Bool.not_eq_false'] at q; rw [q]; rfl
  · unfold finG
    refine M.Conv_ite (fun q => ?_) (fun q => ?_)
    · simp only [Bool.not_eq_true'] at q
      rw [if_neg (by rw [q]; simp)]; exact M.Conv_ret _
    · simp only [Bool.not_eq_false'] at q
      rw [if_pos q]; exact M.Conv_ret _
/-- the places of the words, one after the other -/
theorem words_ok {f : ByteArray → M (TPlace × Bool)} {g : List UInt8 → TPlace × Bool} {ws : List (List UInt8)} {xs : List ByteArray} {lo hi : Int} {j : Nat} {b : Bool} (H : ∀ w ∈ ws, M.Conv (f (strB w)) (g w)) (hw : ws.length ≤ 1000000000) (hlo : lo = j) (hhi : hi = ((j + ws.length : Nat) : Int)) (hj : j ≤ 1) (hx : ∀ k, xs[j + k]? = (ws[k]?).map strB) :
    M.Conv (M.forI lo hi (fun s => s) (fun i1 => (fun (s1 : Bool × (List TPlace)) => M.bind (M.idx xs i1) (fun x5 => M.bind (f x5) (fun x6 => M.bind (M.app s1.2 ([x6.1] : List TPlace)) (fun l1 => M.ret (.inl ((s1.1 && x6.2), l1))))))) (b, ([] : List TPlace))) (b && (ws.map g).all (·.2), (ws.map g).map (·.1)) := by
  subst hlo hhi
  apply M.TC.conv
  refine M.TC_for (fun i s => ∃ k : Nat, i = ((j + k : Nat) : Int) ∧ k ≤ ws.length ∧ s = (b && ((ws.take k).map g).all (·.2), ((ws.take k).map g).map (·.1))) _ (by omega) (by omega) ⟨0, rfl, by omega, by simp⟩ ?_ ?_
  · rintro i s h0 h1 ⟨k, rfl, hk, rfl⟩
    have hlt : k < ws.length := by omega
    have hx1 := List.getElem?_eq_getElem hlt
    have hm := H _ (List.getElem_mem hlt)
    generalize ws[k] = w at hx1 hm
    have etk : ws.take (k + 1) = ws.take k ++ [w] := by rw [List.take_add_one, hx1]; rfl
    refine M.TC_bindC (M.Conv_idx (x := strB w) (by rw [hx k, hx1]; rfl)) (M.TC_bindC hm (M.TC_bindC (M.Conv_app (by simp only [List.length_map, List.length_take, List.length_singleton]; omega)) (M.TC_ret (.inl ⟨_, rfl, k + 1, by omega, by omega, ?_⟩))))
    rw [etk]
    simp [Bool.and_assoc]
  · rintro i s hd ⟨k, ek, hk, rfl⟩
    have : k = ws.length := by omega
    subst this
    rw [List.take_length]
def specR (l : List UInt8) : TGraph × Bool := finG (digP ((spl 32 l).headD [])) ((spl 32 l).tail.map l11P)
theorem spl_get (c : UInt8) (l : List UInt8) : ((spl c l).map strB)[0]? = some (strB ((spl c l).headD [])) := by
  rw [spl_cons_head c l]; rfl
theorem spec_ReadGraph_ok {l : List UInt8} (hl : l.length ≤ 10000000) : M.Conv (spec_ReadGraph (strB l)) (specR l) := by
  unfold spec_ReadGraph specR
  have hlen := spl_len 32 l
  have hsz := spl_size (c := 32) (l := l) (Nat.le_refl _)
  have hhd := spl_cons_head 32 l
  have htl : (spl 32 l).length = (spl 32 l).tail.length + 1 := by rw [hhd]; simp
  refine M.Conv_bind (l01Split_ok (c := 32) rfl (by omega)) (M.Conv_bind (M.Conv_idx (i := 0) (spl_get 32 l)) (M.Conv_bind (l01Digits_ok _) ?_))
  refine M.Conv_bind (words_ok (g := l11P) (ws := (spl 32 l).tail) (j := 1) (fun w hw => l11Read_ok (by have := hsz w (List.mem_of_mem_tail hw); omega)) (by omega) rfl (by rw [List.length_map]; omega) (by omega) (fun k => ?_)) ?_
  · rw [List.getElem?_map, Nat.add_comm 1 k]
    conv => lhs; rw [hhd]
    rfl
  · exact fin_ok (fun g hg => spec_IsEventGraph_ok hg) _ _ (by rw [List.length_map]; omega)
def numI (l : List UInt8) : Int × Bool := match Lib.parseIntB 64 l with
  | .ok v => if Lib.itoa v = l then (v, true) else (0, false)
  | _ => (0, false)
theorem readNumber_ok {l : List UInt8} (hl : l.length ≤ 1000000000) : M.Conv (impl_readNumber (strB l)) (numI l) := by
  unfold impl_readNumber
  refine M.Conv_bind (x := parseR (strB l)) (M.Conv_bind (M.Conv_guard ?_) (M.Conv_ret _)) ?_
  · have : (strB l).size ≤ 281474976710656 := by rw [strB_size]; omega
    simp [this]
  · unfold parseR numI
    rw [strB_list]
    cases hp : Lib.parseIntB 64 l
    · rename_i v
      have hr := pI_range hp
      simp only
      refine M.Conv_bind (x := !decide (Lib.itoa v = l)) (M.Conv_ite (fun q => by cases q) (fun _ => M.Conv_bind (x := strB (Lib.itoa v)) (M.Conv_bind (M.Conv_bind (M.Conv_guard ?_) (M.Conv_ret _)) (M.Conv_ret _)) ((M.Conv_ret _).of ?_))) ?_
      · simp; omega
      · rw [toList_strB, toList_strB]
        by_cases h : Lib.itoa v = l
        · rw [decide_eq_true h, h]; simp
        · rw [decide_eq_false h]; simpa using h
      · refine M.Conv_ite (fun q => ?_) (fun q => ?_)
        · simp only [Bool.not_eq_true', decide_eq_false_iff_not] at q
          rw [if_neg q]; exact M.Conv_ret _
        · simp only [Bool.not_eq_false', decide_eq_true_eq] at q
          rw [if_pos q]; exact M.Conv_ret _
    · exact M.Conv_bind (x := true) (M.Conv_ite (fun _ => M.Conv_ret _) (fun q => by cases q)) (M.Conv_ite (fun _ => M.Conv_ret _) (fun q => by cases q))
    · exact M.Conv_bind (x := true) (M.Conv_ite (fun _ => M.Conv_ret _) (fun q => by cases q)) (M.Conv_ite (fun _ => M.Conv_ret _) (fun q => by cases q))
def plI (w : List UInt8) : TPlace × Bool :=
  let c1 := Lib.cut w [62]; let c2 := Lib.cut c1.2.1 [58]; let c3 := Lib.cut c2.2.1 [42]
  if (numI c1.1).2 then if (numI c2.1).2 then if (numI c3.1).2 then if (numI c3.2.1).2 then (⟨(numI c1.1).1, (numI c2.1).1, (numI c3.1).1, (numI c3.2.1).1⟩, true) else (noPl, false) else (noPl, false) else (noPl, false) else (noPl, false)
theorem cut_size {c : UInt8} {l : List UInt8} {n : Nat} (h : l.length ≤ n) : (Lib.cut l [c]).1.length ≤ n ∧ (Lib.cut l [c]).2.1.length ≤ n := by
  by_cases hc : c ∈ l
  · obtain ⟨a, t, ha, rfl⟩ := mem_part hc
    rw [cut_at t ha]
    simp at h ⊢; omega
  · rw [cut_no hc]; exact ⟨h, by simp⟩
theorem Cut_ok {c : UInt8} {l : List UInt8} (h : l.length ≤ 1000000000) : M.Conv (strings_Cut (strB l) (strB [c])) (strB (Lib.cut l [c]).1, strB (Lib.cut l [c]).2.1, (Lib.cut l [c]).2.2) := by
  refine M.Conv_bind (M.Conv_guard ?_) ((M.Conv_ret _).of ?_)
  · rw [strB_size]; simp; omega
  · rw [strB_list]; rfl
theorem readPlace_ok {w : List UInt8} (hl : w.length ≤ 1000000000) : M.Conv (impl_readPlace (strB w)) (plI w) := by
  unfold impl_readPlace plI
  obtain ⟨s1, s1'⟩ := cut_size (c := 62) hl
  obtain ⟨s2, s2'⟩ := cut_size (c := 58) s1'
  obtain ⟨s3, s3'⟩ := cut_size (c := 42) s2'
  have no : ∀ {x : Int × Bool} {m : M (TPlace × Bool)} {r : TPlace × Bool}, (x.2 = true → M.Conv m r) → M.Conv (M.ite (!x.2) (M.ret ((⟨0, 0, 0, 0⟩ : TPlace), false)) m) (if x.2 then r else (noPl, false)) := by
    intro x m r h
    refine M.Conv_ite (fun q => ?_) (fun q => ?_)
    · simp only [Bool.not_eq_true'] at q
      rw [if_neg (by rw [q]; simp)]; exact M.Conv_ret _
    · simp only [Bool.not_eq_false'] at q
      rw [if_pos q]; exact h q
  refine M.Conv_bind (Cut_ok (c := 62) hl) (M.Conv_bind (Cut_ok (c := 58) s1') (M.Conv_bind (Cut_ok (c := 42) s2') ?_))
  exact M.Conv_bind (readNumber_ok s1) (no fun _ => M.Conv_bind (readNumber_ok s2) (no fun _ => M.Conv_bind (readNumber_ok s3) (no fun _ => M.Conv_bind (readNumber_ok s3') (no fun _ => M.Conv_ret _))))
def implR (l : List UInt8) : TGraph × Bool := finG (numI ((spl 32 l).headD [])) ((spl 32 l).tail.map plI)
theorem impl_ReadGraph_ok {l : List UInt8} (hl : l.length ≤ 10000000) : M.Conv (impl_ReadGraph (strB l)) (implR l) := by
  unfold impl_ReadGraph implR
  have hlen := spl_len 32 l
  have hsz := spl_size (c := 32) (l := l) (Nat.le_refl _)
  have hhd := spl_cons_head 32 l
  have htl : (spl 32 l).length = (spl 32 l).tail.length + 1 := by rw [hhd]; simp
  have hh : ((spl 32 l).headD []).length ≤ l.length := hsz _ (spl_head_mem 32 l)
  refine M.Conv_bind (x := (spl 32 l).map strB) (M.Conv_bind (M.Conv_guard ?_) ((M.Conv_ret _).of (splitB_spl 32 l))) ?_
  · have : (strB l).size < 4294967281 := by rw [strB_size]; omega
    simp [this]; decide
  refine M.Conv_bind (M.Conv_idx (i := 0) (spl_get 32 l)) (M.Conv_bind (readNumber_ok (by omega)) (M.Conv_bind (M.Conv_sub (by omega) (by rw [List.length_map]; omega) (by omega)) ?_))
  refine M.Conv_bind (words_ok (g := plI) (ws := (spl 32 l).tail) (j := 0) (fun w hw => readPlace_ok (by have := hsz w (List.mem_of_mem_tail hw); omega)) (by omega) rfl (by rw [List.length_map]; simp) (by omega) (fun k => ?_)) ?_
  · have : ((spl 32 l).map strB).length = (spl 32 l).tail.length + 1 := by rw [List.length_map, htl]
    rw [List.take_of_length_le (by rw [List.length_drop]; omega), Nat.zero_add, List.getElem?_drop, List.getElem?_map, show (1 : Int).toNat + k = k + 1 by rw [show (1 : Int).toNat = 1 from rfl]; omega]
    conv => lhs; rw [hhd]
    rfl
  · exact fin_ok (fun g hg => impl_IsEventGraph_ok hg) _ _ (by rw [List.length_map]; omega)

theorem numI_of {u : Nat} (h : u ≤ 1000000) : numI (Lib.decDigits u) = ((u : Int), true) := by
  unfold numI
  rw [pI_digits h]
  simp only
  rw [if_pos (by rw [itoa_pos (by omega), Int.toNat_natCast])]
theorem numI_is {w : List UInt8} (h : (numI w).2 = true) : w = Lib.itoa (numI w).1 := by
  unfold numI at h ⊢
  split
  · rename_i v hv
    rw [hv] at h
    simp only at h
    by_cases e : Lib.itoa v = w
    · rw [if_pos e]; exact e.symm
    · rw [if_neg e] at h; cases h
  · rename_i hn
    split at h
    · rename_i v hv; exact absurd hv (hn v)
    · cases h
theorem numI_is0 (w : List UInt8) (h : (numI w).2 = true) (h0 : 0 ≤ (numI w).1) : w = Lib.decDigits (numI w).1.toNat := by
  conv => lhs; rw [numI_is h, itoa_pos h0]
theorem numI_nil : (numI []).2 = false := rfl
theorem digP_of {u : Nat} (h : u ≤ 1000000) : digP (Lib.decDigits u) = ((u : Int), true) := by
  unfold digP
  have h1 := digits_pos u
  have h2 := digits_le 9 u (by omega)
  rw [if_neg (by omega), if_pos (digits_all u), digV_digits, decide_eq_true rfl]
theorem digP_is (w : List UInt8) (h : (digP w).2 = true) (_ : 0 ≤ (digP w).1) : w = Lib.decDigits (digP w).1.toNat := by
  unfold digP at h ⊢
  by_cases h1 : w.length < 1 ∨ 10 < w.length
  · rw [if_pos h1] at h; cases h
  · rw [if_neg h1] at h ⊢
    by_cases h2 : w.all isDig = true
    · rw [if_pos h2] at h ⊢
      have := of_decide_eq_true h
      simp only [Int.toNat_natCast]
      exact this.symm
    · rw [if_neg h2] at h; cases h
theorem sgnP_of {u : Nat} (h : u ≤ 1000000) : sgnP (Lib.decDigits u) = ((u : Int), true) := by
  unfold sgnP
  rw [if_neg, digP_of h]
  intro e
  have h1 := digits_pos u
  cases hd : Lib.decDigits u with
  | nil => rw [hd] at h1; simp at h1
  | cons b t =>
    rw [hd] at e
    have e := Option.some.inj e
    have := digits_mem (u := u) (b := b) (by rw [hd]; simp)
    rw [e] at this
    have : (45 : UInt8).toNat = 45 := rfl
    omega
theorem sgnP_is (w : List UInt8) (h : (sgnP w).2 = true) (h0 : 0 ≤ (sgnP w).1) : w = Lib.decDigits (sgnP w).1.toNat := by
  unfold sgnP at h h0 ⊢
  by_cases e : w.head? = some 45
  · rw [if_pos e] at h h0
    simp only [Bool.and_eq_true, decide_eq_true_eq] at h h0
    omega
  · rw [if_neg e] at h h0 ⊢
    exact digP_is w h h0
/-- places whose numbers are small -/
def goodP (p : TPlace) : Prop := (0 ≤ p.From ∧ p.From ≤ 1000000) ∧ (0 ≤ p.To ∧ p.To ≤ 1000000) ∧ (0 ≤ p.Delay ∧ p.Delay ≤ 1000000) ∧ (0 ≤ p.Tokens ∧ p.Tokens ≤ 1000000)
def nonP (p : TPlace) : Prop := 0 ≤ p.From ∧ 0 ≤ p.To ∧ 0 ≤ p.Delay ∧ 0 ≤ p.Tokens
theorem plT_form (p : TPlace) : plT p = Lib.decDigits p.From.toNat ++ 62 :: (Lib.decDigits p.To.toNat ++ 58 :: (Lib.decDigits p.Delay.toNat ++ 42 :: Lib.decDigits p.Tokens.toNat)) := by
  simp [plT]
theorem val_of {f : List UInt8 → Int × Bool} (H : ∀ u : Nat, u ≤ 1000000 → f (Lib.decDigits u) = ((u : Int), true)) {v : Int} (h : 0 ≤ v ∧ v ≤ 1000000) : f (Lib.decDigits v.toNat) = (v, true) := by
  rw [H v.toNat (by omega)]
  have : ((v.toNat : Nat) : Int) = v := by omega
  rw [this]
theorem plI_of (p : TPlace) (h : goodP p) : plI (plT p) = (p, true) := by
  obtain ⟨h1, h2, h3, h4⟩ := h
  unfold plI
  rw [plT_form]
  simp only [cut_at _ (digits_not (c := 62) (.inr (by decide))), cut_at _ (digits_not (c := 58) (.inr (by decide))), cut_at _ (digits_not (c := 42) (.inl (by decide))), val_of (fun u hu => numI_of hu) h1, val_of (fun u hu => numI_of hu) h2, val_of (fun u hu => numI_of hu) h3, val_of (fun u hu => numI_of hu) h4, if_true]
theorem cut_nil (c : UInt8) : Lib.cut [] [c] = ([], [], false) := cut_no (by simp)
theorem cut_is {c : UInt8} {l : List UInt8} (h : (Lib.cut l [c]).2.1 ≠ []) : l = (Lib.cut l [c]).1 ++ c :: (Lib.cut l [c]).2.1 := by
  by_cases hc : c ∈ l
  · obtain ⟨a, t, ha, rfl⟩ := mem_part hc
    rw [cut_at t ha]
  · rw [cut_no hc] at h
    exact absurd rfl h
theorem plI_is (w : List UInt8) (h : (plI w).2 = true) (h0 : nonP (plI w).1) : w = plT (plI w).1 := by
  unfold plI at h h0 ⊢
  simp only at h h0 ⊢
  by_cases n1 : (numI (Lib.cut w [62]).1).2 = true
  · by_cases n2 : (numI (Lib.cut (Lib.cut w [62]).2.1 [58]).1).2 = true
    · by_cases n3 : (numI (Lib.cut (Lib.cut (Lib.cut w [62]).2.1 [58]).2.1 [42]).1).2 = true
      · by_cases n4 : (numI (Lib.cut (Lib.cut (Lib.cut w [62]).2.1 [58]).2.1 [42]).2.1).2 = true
        · rw [if_pos n1, if_pos n2, if_pos n3, if_pos n4] at h0 ⊢
          obtain ⟨p1, p2, p3, p4⟩ := h0
          simp only at p1 p2 p3 p4
          have e1 := numI_is0 _ n1 p1
          have e2 := numI_is0 _ n2 p2
          have e3 := numI_is0 _ n3 p3
          have e4 := numI_is0 _ n4 p4
          have ne : ∀ {l : List UInt8}, (numI l).2 = true → l ≠ [] := fun q e => by rw [e, numI_nil] at q; cases q
          have c3 := cut_is (ne n4)
          have c2 := cut_is (c := 58) (l := (Lib.cut w [62]).2.1) (fun e => by rw [e, cut_nil] at n4; rw [numI_nil] at n4; cases n4)
          have c1 := cut_is (c := 62) (l := w) (fun e => by rw [e, cut_nil] at n2; rw [numI_nil] at n2; cases n2)
          rw [plT_form]
          simp only
          rw [← e1, ← e2, ← e3, ← e4, ← c3, ← c2, ← c1]
        · rw [if_pos n1, if_pos n2, if_pos n3, if_neg n4] at h; cases h
      · rw [if_pos n1, if_pos n2, if_neg n3] at h; cases h
    · rw [if_pos n1, if_neg n2] at h; cases h
  · rw [if_neg n1] at h; cases h
theorem not_tail {c d : UInt8} {u : Nat} {t : List UInt8} (hc : c.toNat < 48 ∨ 57 < c.toNat) (hd : c ≠ d) (ht : c ∉ t) : c ∉ Lib.decDigits u ++ d :: t := by
  simp only [List.mem_append, List.mem_cons, not_or]
  exact ⟨digits_not hc, hd, ht⟩
theorem l11P_of (p : TPlace) (h : goodP p) : l11P (plT p) = (p, true) := by
  obtain ⟨h1, h2, h3, h4⟩ := h
  have e3 : spl 42 (Lib.decDigits p.Delay.toNat ++ 42 :: Lib.decDigits p.Tokens.toNat) = [Lib.decDigits p.Delay.toNat, Lib.decDigits p.Tokens.toNat] := by
    rw [spl_app _ (digits_not (.inl (by decide))), spl_no (digits_not (.inl (by decide)))]
  have e2 : spl 58 (Lib.decDigits p.To.toNat ++ 58 :: (Lib.decDigits p.Delay.toNat ++ 42 :: Lib.decDigits p.Tokens.toNat)) = [Lib.decDigits p.To.toNat, Lib.decDigits p.Delay.toNat ++ 42 :: Lib.decDigits p.Tokens.toNat] := by
    rw [spl_app _ (digits_not (.inr (by decide))), spl_no (not_tail (.inr (by decide)) (by decide) (digits_not (.inr (by decide))))]
  have e1 : spl 62 (plT p) = [Lib.decDigits p.From.toNat, Lib.decDigits p.To.toNat ++ 58 :: (Lib.decDigits p.Delay.toNat ++ 42 :: Lib.decDigits p.Tokens.toNat)] := by
    rw [plT_form, spl_app _ (digits_not (.inr (by decide))), spl_no (not_tail (.inr (by decide)) (by decide) (not_tail (.inr (by decide)) (by decide) (digits_not (.inr (by decide)))))]
  unfold l11P
  rw [e1]
  simp only
  rw [e2]
  simp only
  rw [e3]
  unfold numsP
  simp only [List.all_cons, List.all_nil, List.map_cons, List.map_nil, val_of (fun u hu => sgnP_of hu) h1, val_of (fun u hu => sgnP_of hu) h2, val_of (fun u hu => sgnP_of hu) h3, val_of (fun u hu => sgnP_of hu) h4, Bool.and_self, if_true]
  rfl
theorem spl_two {c : UInt8} {l a b : List UInt8} (h : spl c l = [a, b]) : l = a ++ c :: b := by
  have := spl_join c l
  rw [h] at this
  simpa using this.symm
theorem fourP_is {r : List Int × Bool} (h : (fourP r).2 = true) : ∃ a b c d, r = ([a, b, c, d], true) ∧ fourP r = (⟨a, b, c, d⟩, true) := by
  unfold fourP at h ⊢
  split at h
  · rename_i a b c d; exact ⟨a, b, c, d, rfl, rfl⟩
  · cases h
theorem l11P_two {w a r b t : List UInt8} (e1 : spl 62 w = [a, r]) (e2 : spl 58 r = [b, t]) : l11P w = fourP (numsP (a :: b :: spl 42 t)) := by
  unfold l11P
  rw [e1]
  simp only
  rw [e2]
theorem l11P_one {w a r : List UInt8} (e1 : spl 62 w = [a, r]) (hne : (spl 58 r).length ≠ 2) : l11P w = (noPl, false) := by
  unfold l11P
  rw [e1]
  simp only
  split
  · rename_i h; rw [h] at hne; simp at hne
  · rfl
theorem l11P_none {w : List UInt8} (hne : (spl 62 w).length ≠ 2) : l11P w = (noPl, false) := by
  unfold l11P
  split
  · rename_i h; rw [h] at hne; simp at hne
  · rfl
theorem l11P_is (w : List UInt8) (h : (l11P w).2 = true) (h0 : nonP (l11P w).1) : w = plT (l11P w).1 := by
  rcases two_or (spl 62 w) with ⟨a, r, e1⟩ | hne
  · rcases two_or (spl 58 r) with ⟨b, t, e2⟩ | hne
    · rw [l11P_two e1 e2] at h h0 ⊢
      obtain ⟨v0, v1, v2, v3, en, ef⟩ := fourP_is h
      rw [ef] at h0 ⊢
      obtain ⟨p1, p2, p3, p4⟩ := h0
      simp only at p1 p2 p3 p4
      unfold numsP at en
      split at en
      · rename_i ha
        simp only [Prod.mk.injEq, and_true] at en
        rw [List.map_cons, List.map_cons] at en
        obtain ⟨c, d, e3⟩ : ∃ c d, spl 42 t = [c, d] := by
          have hl := congrArg List.length en
          simp only [List.length_cons, List.length_map, List.length_nil] at hl
          rcases two_or (spl 42 t) with h | h
          · exact h
          · omega
        rw [e3] at en ha
        simp only [List.map_cons, List.map_nil, List.cons.injEq, and_true] at en
        obtain ⟨q0, q1, q2, q3⟩ := en
        simp only [List.all_cons, List.all_nil, Bool.and_true, Bool.and_eq_true] at ha
        obtain ⟨s0, s1, s2, s3⟩ := ha
        subst q0 q1 q2 q3
        have e0 := sgnP_is a s0 p1
        have e1' := sgnP_is b s1 p2
        have e2' := sgnP_is c s2 p3
        have e3' := sgnP_is d s3 p4
        rw [plT_form]
        simp only
        rw [← e0, ← e1', ← e2', ← e3', ← spl_two e3, ← spl_two e2, ← spl_two e1]
      · cases en
    · rw [l11P_one e1 hne] at h; cases h
  · rw [l11P_none hne] at h; cases h
/-- l is the text of g -/
def Rdg (l : List UInt8) (g : TGraph) : Prop := graphB g = true ∧ (spl 32 l).headD [] = Lib.decDigits g.Events.toNat ∧ (spl 32 l).tail = g.Places.map plT
theorem goodP_of {e : Int} {p : TPlace} (h : PlG e p) : goodP p := by
  obtain ⟨a, b, c, d⟩ := h
  exact ⟨by omega, by omega, by omega, by omega⟩
theorem finG_cases (e : Int × Bool) (ps : List (TPlace × Bool)) : ((finG e ps).2 = false ∧ finG e ps = (⟨0, []⟩, false)) ∨ (finG e ps = (⟨e.1, ps.map (·.1)⟩, true) ∧ e.2 = true ∧ ps.all (·.2) = true ∧ graphB ⟨e.1, ps.map (·.1)⟩ = true) := by
  unfold finG
  split
  · rename_i h
    simp only [Bool.and_eq_true] at h
    exact .inr ⟨rfl, h.1.1, h.1.2, h.2⟩
  · exact .inl ⟨rfl, rfl⟩
section
variable {nf : List UInt8 → Int × Bool} {f : List UInt8 → TPlace × Bool}
theorem fin_of (N1 : ∀ u : Nat, u ≤ 1000000 → nf (Lib.decDigits u) = ((u : Int), true)) (F1 : ∀ p, goodP p → f (plT p) = (p, true)) {l : List UInt8} {g : TGraph} (h : Rdg l g) :
    finG (nf ((spl 32 l).headD [])) ((spl 32 l).tail.map f) = (g, true) := by
  obtain ⟨hg, h1, h2⟩ := h
  obtain ⟨he, hl, hp⟩ := graph_good hg
  have e2 : (g.Places.map plT).map f = g.Places.map fun p => (p, true) := by
    rw [List.map_map]
    exact List.map_congr_left fun p hp' => F1 p (goodP_of (hp p hp'))
  rw [h1, h2, e2, val_of N1 (by omega)]
  have e3 : (g.Places.map fun p => (p, true)).map (·.1) = g.Places := by rw [List.map_map]; exact List.map_id _
  have e4 : (g.Places.map fun p => (p, true)).all (·.2) = true := by simp
  unfold finG
  rw [e3, e4, hg]
  rfl
theorem fin_is (N2 : ∀ w, (nf w).2 = true → 0 ≤ (nf w).1 → w = Lib.decDigits (nf w).1.toNat) (F2 : ∀ w, (f w).2 = true → nonP (f w).1 → w = plT (f w).1) {l : List UInt8} {g : TGraph}
    (h : finG (nf ((spl 32 l).headD [])) ((spl 32 l).tail.map f) = (g, true)) : Rdg l g := by
  rcases finG_cases (nf ((spl 32 l).headD [])) ((spl 32 l).tail.map f) with ⟨h1, _⟩ | ⟨h1, h2, h3, h4⟩
  · rw [h] at h1; cases h1
  · rw [h] at h1
    obtain rfl := (Prod.mk.inj h1).1
    obtain ⟨he, hl, hp⟩ := graph_good h4
    simp only at he hp
    refine ⟨h4, N2 _ h2 (by omega), ?_⟩
    show (spl 32 l).tail = (((spl 32 l).tail.map f).map (·.1)).map plT
    rw [List.map_map, List.map_map]
    conv => lhs; rw [← List.map_id (spl 32 l).tail]
    refine List.map_congr_left fun w hw => ?_
    have hpw := hp (f w).1 (List.mem_map.2 ⟨f w, List.mem_map.2 ⟨w, hw, rfl⟩, rfl⟩)
    have hok := List.all_eq_true.1 h3 (f w) (List.mem_map.2 ⟨w, hw, rfl⟩)
    obtain ⟨a, b, c, d⟩ := hpw
    exact F2 w hok ⟨by omega, by omega, by omega, by omega⟩
end
theorem spec_of {l : List UInt8} {g : TGraph} (h : Rdg l g) : specR l = (g, true) := fin_of (fun u hu => digP_of hu) l11P_of h
theorem spec_is {l : List UInt8} {g : TGraph} (h : specR l = (g, true)) : Rdg l g := fin_is digP_is l11P_is h
theorem impl_of {l : List UInt8} {g : TGraph} (h : Rdg l g) : implR l = (g, true) := fin_of (fun u hu => numI_of hu) plI_of h
theorem impl_is {l : List UInt8} {g : TGraph} (h : implR l = (g, true)) : Rdg l g := fin_is numI_is0 plI_is h
theorem read_same (l : List UInt8) : implR l = specR l := by
  rcases finG_cases (digP ((spl 32 l).headD [])) ((spl 32 l).tail.map l11P) with ⟨_, h2⟩ | ⟨h1, _⟩
  · rcases finG_cases (numI ((spl 32 l).headD [])) ((spl 32 l).tail.map plI) with ⟨_, h4⟩ | ⟨h3, _⟩
    · exact h4.trans h2.symm
    · have := spec_of (impl_is h3)
      rw [show specR l = _ from h2] at this
      exact absurd (Prod.mk.inj this).2 (by simp)
  · rw [impl_of (spec_is h1)]
    exact h1.symm
theorem spl_words {e : Int} : ∀ {ps : List TPlace} (a : List UInt8), (32 : UInt8) ∉ a → (∀ p ∈ ps, (32 : UInt8) ∉ plT p) → spl 32 (a ++ (ps.map fun p => 32 :: plT p).flatten) = a :: ps.map plT
  | [], a, ha, _ => by simp [spl_no ha]
  | p :: t, a, ha, hp => by
    rw [List.map_cons, List.flatten_cons, List.cons_append, spl_app _ ha, spl_words (e := e) (plT p) (hp p (by simp)) fun q hq => hp q (by simp [hq])]
    rfl
theorem plT_no (p : TPlace) : (32 : UInt8) ∉ plT p := by
  rw [plT_form]
  exact not_tail (.inl (by decide)) (by decide) (not_tail (.inl (by decide)) (by decide) (not_tail (.inl (by decide)) (by decide) (digits_not (.inl (by decide)))))
theorem Rdg_iff {l : List UInt8} {g : TGraph} : Rdg l g ↔ graphB g = true ∧ l = grT g.Events g.Places := by
  constructor
  · rintro ⟨hg, h1, h2⟩
    refine ⟨hg, ?_⟩
    have := spl_join 32 l
    rw [h1, h2, List.map_map] at this
    rw [grT_eq]
    exact this.symm
  · rintro ⟨hg, rfl⟩
    rw [Rdg, grT_eq, spl_words (e := g.Events) _ (digits_not (.inl (by decide))) (fun p _ => plT_no p)]
    exact ⟨hg, rfl, rfl⟩

theorem read_cases (l : List UInt8) : (specR l = (⟨0, []⟩, false) ∧ ∀ g, ¬ Rdg l g) ∨ ∃ g, specR l = (g, true) ∧ Rdg l g := by
  rcases finG_cases (digP ((spl 32 l).headD [])) ((spl 32 l).tail.map l11P) with ⟨h1, h2⟩ | ⟨h1, _⟩
  · refine .inl ⟨h2, fun g hg => ?_⟩
    have := (spec_of hg).symm.trans h2
    exact absurd (Prod.mk.inj this).2 (by simp)
  · exact .inr ⟨_, h1, spec_is h1⟩
theorem read_small (l : List UInt8) : smG (specR l).1 := by
  rcases read_cases l with ⟨h, _⟩ | ⟨g, h, hg, _⟩
  · rw [h]; simp [smG, smP]
  · rw [h]
    obtain ⟨_, hl, _⟩ := graph_good hg
    simp only [smG, smP]; omega
def StrS (b : ByteArray) : Prop := ∃ l, b = strB l ∧ l.length ≤ 1000000
theorem text_small {g : TGraph} (s : smG g) : ∃ l : List UInt8, M.Conv (spec_GraphText g) (strB l) ∧ M.Conv (impl_GraphText g) (strB l) ∧ l.length ≤ 200000 ∧ ((graphB g = false ∧ l = []) ∨ (graphB g = true ∧ l = grT g.Events g.Places)) := by
  obtain ⟨t, t1, t2, h⟩ := text_Two g s
  rcases h with ⟨h1, rfl⟩ | ⟨h1, rfl⟩
  · exact ⟨[], t1, t2, by simp, .inl ⟨h1, rfl⟩⟩
  · obtain ⟨he, hl, hp⟩ := graph_good h1
    exact ⟨_, t1, t2, grT_len (by omega) hl hp, .inr ⟨h1, rfl⟩⟩
theorem damage_ok {code : List Int} (hc : ByC code) {s : TL01source} (hs : Src code s) {l : List UInt8} (hl : l.length ≤ 200000) : M.TC (spec_l01Damage s (strB l)) (fun r => StrS r.1) := by
  unfold spec_l01Damage
  rw [hs.code_]
  have sz : ((strB l).size : Int) = (l.length : Int) := rfl
  simp only [sz]
  have ew : w64 ((l.length : Int) + 1) = (l.length : Int) + 1 := w64_eq _ (by omega)
  rw [ew]
  refine M.TC_bind (next_ok hc hs _ (by omega)) fun x hx => M.TC_bind (next_ok hc (hx.1.mk' rfl) 8 (by omega)) fun y hy => ?_
  have hk0 : 0 ≤ x.1 := hx.2.1
  have hk : x.1 ≤ (l.length : Int) := by have := hx.2.2; omega
  have pre : M.Conv (M.ssub (strB l) 0 x.1) (strB ((l.take x.1.toNat).drop (0 : Int).toNat)) := Conv_ssub (by omega) (by omega) (by omega)
  have hpre : ((l.take x.1.toNat).drop (0 : Int).toNat).length ≤ 200000 := by rw [List.length_drop, List.length_take]; omega
  generalize (l.take x.1.toNat).drop (0 : Int).toNat = a at pre hpre
  have suf : ∀ j : Int, 0 ≤ j → j ≤ (l.length : Int) → ∃ b : List UInt8, M.Conv (M.ssub (strB l) j (l.length : Int)) (strB b) ∧ b.length ≤ 200000 := fun j h0 h1 =>
    ⟨_, Conv_ssub (by omega) h1 (by omega), by rw [List.length_drop, List.length_take]; omega⟩
  have same : ∀ z : TL01source, M.TC (M.ret (strB l, z)) (fun r => StrS r.1) := fun z => M.TC_ret ⟨l, rfl, by omega⟩
  refine M.TC_ite (fun _ => M.TC_bindC pre (M.TC_ret ⟨a, rfl, by omega⟩)) (fun _ => M.TC_ite (fun _ => ?_) (fun _ => M.TC_ite (fun _ => M.TC_ite (fun t => ?_) (fun _ => same _)) (fun _ => same _)))
  · obtain ⟨b, hb, hbl⟩ := suf x.1 hk0 hk
    refine M.TC_bind (Mid := fun (q : ByteArray × Int × Int) => StrS q.1) ?_ fun q hq => M.TC_ret hq
    refine M.TC_bindC pre (M.TC_bindC hb (M.TC_bind (next_ok hc (hy.1.mk' rfl) 8 (by omega)) fun z hz => M.TC_bind (Mid := fun c => ∃ u, c = strB [u]) (M.TC_idx hz.2.1 (by simp only [List.length_cons, List.length_nil]; omega) fun c hcm => ?_) fun c hcm => ?_))
    · have := List.mem_of_getElem? hcm
      simp only [List.mem_cons, List.not_mem_nil, or_false] at this
      rcases this with rfl | rfl | rfl | rfl | rfl | rfl | rfl | rfl <;> exact ⟨_, rfl⟩
    · obtain ⟨u, rfl⟩ := hcm
      exact M.TC_bindC (cat_ok (by simp; omega)) (M.TC_bindC (cat_ok (by simp; omega)) (M.TC_ret ⟨_, rfl, by simp; omega⟩))
  · have t := of_decide_eq_true t
    have ew : w64 (x.1 + 1) = x.1 + 1 := w64_eq _ (by omega)
    obtain ⟨b, hb, hbl⟩ := suf (x.1 + 1) (by omega) (by omega)
    rw [ew]
    exact M.TC_bindC pre (M.TC_bindC hb (M.TC_bindC (cat_ok (by omega)) (M.TC_ret ⟨_, rfl, by simp; omega⟩)))
theorem DrawReadGraph_ok {code : List Int} (hc : ByC code) : M.TC (spec_DrawReadGraph code) StrS := by
  unfold spec_DrawReadGraph
  refine M.TC_bind (from_ok hc) fun s hs => ?_
  rw [hs.code_]
  refine M.TC_bind (l11Draw_ok hc hs) fun x hx => ?_
  obtain ⟨l, h1, _, hl, _⟩ := text_small (g := x.1) (GrS.sm ⟨hx.1.1, hx.1.2⟩)
  refine M.TC_bindC h1 (M.TC_bind (next_ok hc (hx.2.2.mk' rfl) 3 (by omega)) fun y hy => M.TC_ite (fun _ => ?_) (fun _ => M.TC_ret ⟨l, rfl, by omega⟩))
  exact M.TC_bind (damage_ok hc (hy.1.mk' rfl) hl) fun z hz => M.TC_ret hz
theorem DrawAddPlace_ok {code : List Int} (hc : ByC code) : M.TC (spec_DrawAddPlace code) (fun r => GrS r.1 ∧ okTPlace r.2) := by
  unfold spec_DrawAddPlace
  refine M.TC_bind (from_ok hc) fun s hs => ?_
  rw [hs.code_]
  have i64 : ∀ v : Int, -1000000 ≤ v → v ≤ 1000000 → inI64 v := fun v a b => by unfold inI64; omega
  refine M.TC_bind (l11Draw_ok hc hs) fun x hx => M.TC_bind (next_ok hc (hx.2.2.mk' rfl) 10 (by omega)) fun y hy => M.TC_ite (fun _ => ?_) (fun _ => ?_)
  · refine M.TC_bind (Mid := okTPlace) ?_ fun q hq => M.TC_ret ⟨⟨hx.1.1, hx.1.2⟩, hq⟩
    exact M.TC_bind (pick_ok hc (hy.1.mk' rfl) _ (by simp) (by simp) inI64 (by have := hx.2.1; simp [inI64]; omega)) fun a ha => M.TC_bind (pick_ok hc (ha.1.mk' rfl) _ (by simp) (by simp) inI64 (by simp [inI64])) fun b hb => M.TC_bind (pick_ok hc (hb.1.mk' rfl) _ (by simp) (by simp) inI64 (by simp [inI64])) fun c hc' => M.TC_ret ⟨ha.2, i64 _ (by simp) (by simp), hb.2, hc'.2⟩
  · exact M.TC_bind (next_ok hc (hy.1.mk' rfl) _ (by omega)) fun a ha => M.TC_bind (next_ok hc (ha.1.mk' rfl) _ (by omega)) fun b hb => M.TC_bind (next_ok hc (hb.1.mk' rfl) 20 (by omega)) fun c hc' => M.TC_bind (next_ok hc (hc'.1.mk' rfl) 4 (by omega)) fun d hd => M.TC_ret ⟨⟨hx.1.1, hx.1.2⟩, i64 _ (by simp only; omega) (by simp only; omega), i64 _ (by simp only; omega) (by simp only; omega), i64 _ (by simp only; omega) (by simp only; omega), i64 _ (by simp only; omega) (by simp only; omega)⟩
/-- a place that could be added: what comes of it -/
theorem add_rev {g : TGraph} {p : TPlace} {w : TGraph × Int} (s : smG g) (h : M.Conv (impl_AddPlace g p) w) (h0 : w.2 = 0) : graphB g = true ∧ placeB g.Events p = true ∧ g.Places.length ≤ 29 ∧ w.1 = ⟨g.Events, g.Places ++ [p]⟩ := by
  have hs := s
  simp only [smG, smP] at hs
  have key : ∃ r : TGraph × Int, M.Conv (impl_AddPlace g p) r ∧ (r.2 ≠ 0 ∨ (graphB g = true ∧ placeB g.Events p = true ∧ g.Places.length ≤ 29 ∧ r.1 = ⟨g.Events, g.Places ++ [p]⟩)) := by
    unfold impl_AddPlace
    cases hg : graphB g with
    | false => exact ⟨_, M.Conv_bind (impl_IsEventGraph_ok (by omega)) (M.Conv_ite (fun _ => M.Conv_ret _) (fun q => by rw [hg] at q; cases q)), .inl (by decide)⟩
    | true =>
      cases hp : placeB g.Events p with
      | false => exact ⟨_, M.Conv_bind (impl_IsEventGraph_ok (by omega)) (M.Conv_ite (fun q => by rw [hg] at q; cases q) (fun _ => M.Conv_bind (impl_isPlace_ok _ _) (M.Conv_ite (fun _ => M.Conv_ret _) (fun q => by rw [hp] at q; cases q)))), .inl (by decide)⟩
      | true =>
        by_cases h30 : g.Places.length = 30
        · exact ⟨_, M.Conv_bind (impl_IsEventGraph_ok (by omega)) (M.Conv_ite (fun q => by rw [hg] at q; cases q) (fun _ => M.Conv_bind (impl_isPlace_ok _ _) (M.Conv_ite (fun q => by rw [hp] at q; cases q) (fun _ => M.Conv_ite (fun _ => M.Conv_ret _) (fun q => by rw [h30] at q; simp at q))))), .inl (by decide)⟩
        · have hl := graphB_len hg
          exact ⟨_, M.Conv_bind (impl_IsEventGraph_ok (by omega)) (M.Conv_ite (fun q => by rw [hg] at q; cases q) (fun _ => M.Conv_bind (impl_isPlace_ok _ _) (M.Conv_ite (fun q => by rw [hp] at q; cases q) (fun _ => M.Conv_ite (fun q => by simp at q; omega) (fun _ => M.Conv_bind (impl_cloneGraph_ok s) (M.Conv_bind (M.Conv_app (by simp; omega)) (M.Conv_ret _))))))), .inr ⟨rfl, rfl, by omega, rfl⟩⟩
  obtain ⟨r, r1, r2⟩ := key
  have e := h.unique r1
  rw [e] at h0 ⊢
  rcases r2 with h | h
  · exact absurd h0 h
  · exact h
theorem add_drop {g : TGraph} {p : TPlace} (hg : graphB g = true) (hp : placeB g.Events p = true) (hl : g.Places.length ≤ 29) : idxOK ⟨g.Events, g.Places ++ [p]⟩ (g.Places.length : Int) ∧ dropG ⟨g.Events, g.Places ++ [p]⟩ (g.Places.length : Int) = g := by
  refine ⟨⟨?_, by omega, by simp only [List.length_append, List.length_singleton]; omega⟩, ?_⟩
  · unfold graphB at hg ⊢
    simp only [Bool.and_eq_true, List.all_append, List.all_cons, List.all_nil, Bool.and_true, decide_eq_true_eq, List.length_append, List.length_singleton] at hg ⊢
    exact ⟨⟨hg.1.1, by omega⟩, hg.2, hp⟩
  · unfold dropG
    simp only [Int.toNat_natCast]
    rw [List.take_left' rfl, List.drop_eq_nil_of_le (by simp), List.append_nil]
theorem read_text {g : TGraph} {l : List UInt8} (h : (graphB g = false ∧ l = []) ∨ (graphB g = true ∧ l = grT g.Events g.Places)) : (graphB g = false ∧ l = [] ∧ implR l = (⟨0, []⟩, false)) ∨ (graphB g = true ∧ l ≠ [] ∧ implR l = (g, true)) := by
  rcases h with ⟨h1, rfl⟩ | ⟨h1, rfl⟩
  · refine .inl ⟨h1, rfl, ?_⟩
    rw [read_same]
    rcases read_cases [] with ⟨h, _⟩ | ⟨g', _, hg'⟩
    · exact h
    · have e := (Rdg_iff.1 hg').2
      have := congrArg List.length e
      rw [grT_eq, List.length_append] at this
      have := digits_pos g'.Events.toNat
      simp only [List.length_nil] at *
      omega
  · refine .inr ⟨h1, fun e => ?_, impl_of (Rdg_iff.2 ⟨h1, rfl⟩)⟩
    have := congrArg List.length e
    rw [grT_eq, List.length_append] at this
    have := digits_pos g.Events.toNat
    simp only [List.length_nil] at *
    omega
theorem FnGraphs_ok (code : List Int) (h : fitL inU8 code) : M.Conv (laws_FnGraphs code) true := by
  apply M.TC.conv
  unfold laws_FnGraphs
  refine M.TC_bindC (big_ok code) (M.TC_ite (fun _ => M.TC_ret rfl) (fun hb => ?_))
  have hbc := ByC.of h hb
  refine M.TC_bind (DrawAddPlace_ok hbc) fun r hr => ?_
  obtain ⟨g, p⟩ := r
  obtain ⟨hg, hp⟩ := hr
  simp only at hg hp ⊢
  obtain ⟨w, q1, q2, s1⟩ := same_AddPlace g hg.ok p hp hg.sm
  obtain ⟨l, t1, t2, hl, ht⟩ := text_small hg.sm
  have hr := read_text ht
  refine M.TC_bindC q2 (M.TC_bindC q1 (M.TC_bindC t2 (M.TC_bindC (impl_ReadGraph_ok (l := l) (by omega)) (M.TC_bind (DrawReadGraph_ok hbc) fun b hb => ?_))))
  obtain ⟨d, rfl, hd⟩ := hb
  have hI := impl_ReadGraph_ok (l := d) (by omega)
  rw [read_same] at hI
  refine M.TC_bindC hI (M.TC_bindC (spec_ReadGraph_ok (l := d) (by omega)) ?_)
  have hsm := read_small d
  have e6 : (implR l).2 = graphB g := by
    rcases hr with ⟨a, _, b⟩ | ⟨a, _, b⟩
    · rw [a, b]
    · rw [a, b]
  have ee : (!((strB l).toList == (⟨#[]⟩ : ByteArray).toList)) = graphB g := by
    have e0 : (⟨#[]⟩ : ByteArray).toList = [] := toList_strB []
    rw [toList_strB, e0]
    rcases hr with ⟨a, b, _⟩ | ⟨a, b, _⟩
    · rw [a, b]; rfl
    · rw [a]
      cases l with
      | nil => exact absurd rfl b
      | cons x t => rfl
  refine M.TC_bindC (x := false) (M.Conv_ite (fun q => by simp at q) (fun _ => M.Conv_bind (likeG_refl s1) (M.Conv_ret _))) ?_
  refine M.TC_bindC (x := false) (M.Conv_ite (fun q => by cases q) (fun _ => M.Conv_bind t1 ((M.Conv_ret _).of (by rw [beq_self_eq_true]; rfl)))) ?_
  refine M.TC_bindC (x := false) (M.Conv_ite (fun q => by rw [ee, e6] at q; simp at q) (fun _ => M.Conv_bind (x := false) (M.Conv_ite (fun q => ?_) (fun _ => M.Conv_ret _)) (M.Conv_ret _))) ?_
  · rcases hr with ⟨_, _, b⟩ | ⟨_, _, b⟩
    · rw [b] at q; cases q
    · rw [b]
      exact M.Conv_bind (likeG_refl hg.sm) (M.Conv_ret _)
  refine M.TC_bindC (x := false) (M.Conv_ite (fun q => by cases q) (fun _ => M.Conv_bind (likeG_refl hsm) (M.Conv_ret _))) ?_
  refine M.TC_bindC (x := false) (M.Conv_ite (fun q => by simp at q) (fun _ => M.Conv_bind (x := false) (M.Conv_ite (fun q => ?_) (fun _ => M.Conv_ret _)) (M.Conv_ret _))) ?_
  · rcases read_cases d with ⟨a, _⟩ | ⟨g', a, hg'⟩
    · rw [a] at q; cases q
    · obtain ⟨hgb, rfl⟩ := Rdg_iff.1 hg'
      rw [a] at hsm ⊢
      obtain ⟨l', _, u2, _, hu⟩ := text_small hsm
      simp only at u2 hu ⊢
      rcases hu with ⟨n, _⟩ | ⟨_, rfl⟩
      · rw [hgb] at n; cases n
      · exact M.Conv_bind u2 ((M.Conv_ret _).of (by rw [beq_self_eq_true]; rfl))
  have hgs := hg.len
  refine M.TC_bindC (x := false) (M.Conv_ite (fun q => by cases q) (fun _ => M.Conv_bind (impl_IsEventGraph_ok (by omega)) ((M.Conv_ret _).of (by rw [e6, beq_self_eq_true]; rfl)))) ?_
  refine M.TC_ite (fun q => by cases q) (fun _ => M.TC_ite (fun _ => M.TC_ret rfl) (fun q => ?_))
  have q : w.2 = 0 := by simpa using q
  obtain ⟨a1, a2, a3, a4⟩ := add_rev hg.sm q2 q
  obtain ⟨b1, b2⟩ := add_drop a1 a2 a3
  rw [a4] at s1 ⊢
  have hdr := drop_impl s1 b1
  rw [b2] at hdr
  refine M.TC_bindC hdr (M.TC_bindC (x := true) (M.Conv_ite (fun _ => M.Conv_bind (likeG_refl hg.sm) (M.Conv_ret _)) (fun q => by simp at q)) (M.TC_ret rfl))

end Go.Proofs.YtfhphkiggdepaaaDoor
