/-
  Plain proofs: the plain program of the law ends with true.
  Conditions: None beyond the given statement.
-/
import Derived.Test.YtipdgiljgbjjkaaP
namespace Go.Proofs.Ytipdgiljgbjjkaa
open Go
/-! ### plain programs: loops over a list -/
namespace M
variable {α β σ ρ : Type}
/-- rounds over the elements of a list, each with its place; a round may leave -/
def run (g : Nat → α → σ → σ ⊕ ρ) (fin : σ → ρ) : Nat → List α → σ → ρ
  | _, [], s => fin s
  | i, x :: xs, s => match g i x s with
    | .inl s' => run g fin (i + 1) xs s'
    | .inr r => r
theorem Conv_forN {l : List α} {f : Int → σ → M (σ ⊕ ρ)} (g : Nat → α → σ → σ ⊕ ρ) (fin : σ → ρ) (I : Nat → σ → Prop) (hi : Int) :
    ∀ (xs : List α) (i : Nat) (s : σ), hi = (i + xs.length : Nat) → I i s → (∀ (j : Nat) x s, xs[j]? = some x → I (i + j) s → Conv (f (i + j : Nat) s) (g (i + j) x s) ∧ ∀ s', g (i + j) x s = .inl s' → I (i + j + 1) s') →
      ∃ N, ∀ n, N ≤ n → forN hi fin f n xs.length i s = some (run g fin i xs s)
  | [], i, s, hh, _, _ => ⟨0, fun n _ => by
      have : ¬ (i : Int) < hi := by rw [hh]; simp
      simp [forN, run, this]⟩
  | x :: xs, i, s, hh, h0, H => by
    have hlt : (i : Int) < hi := by rw [hh]; simp; omega
    obtain ⟨⟨N, hN⟩, hI⟩ := H 0 x s rfl h0
    simp only [Nat.add_zero] at hN hI
    cases hg : g i x s with
    | inl s' =>
      have hi' := hI s' hg
      obtain ⟨N', hN'⟩ := Conv_forN (l := l) g fin I hi xs (i + 1) s' (by rw [hh, List.length_cons]; congr 1; omega) hi' (fun j y s hy hIs => by
        have := H (j + 1) y s (by simpa using hy) (by rw [← Nat.add_assoc, Nat.add_right_comm]; exact hIs)
        rw [show i + (j + 1) = i + 1 + j by omega] at this
        exact this)
      refine ⟨max N N', fun n hn => ?_⟩
      have h1 := hN n (by omega)
      rw [hg] at h1
      simp only [List.length_cons, forN, hlt, decide_true, cond_true, h1, run, hg]
      have := hN' n (by omega)
      simpa using this
    | inr r =>
      refine ⟨N, fun n hn => ?_⟩
      have h1 := hN n hn
      rw [hg] at h1
      simp only [List.length_cons, forN, hlt, decide_true, cond_true, h1, run, hg]
/-- a loop over a list, with an invariant -/
theorem Conv_forI {l : List α} {f : Int → σ → M (σ ⊕ ρ)} {fin : σ → ρ} {s : σ} (g : Nat → α → σ → σ ⊕ ρ) (I : Nat → σ → Prop) (hl : l.length ≤ 9223372036854775807) (h0 : I 0 s)
    (H : ∀ (i : Nat) x s, l[i]? = some x → I i s → Conv (f i s) (g i x s) ∧ ∀ s', g i x s = .inl s' → I (i + 1) s') : Conv (forI 0 (l.length : Int) fin f s) (run g fin 0 l s) := by
  obtain ⟨N, hN⟩ := Conv_forN (l := l) (f := f) g fin I (l.length : Int) l 0 s (by simp) h0 (fun j x s hx hI => by simpa using H j x s hx (by simpa using hI))
  refine ⟨N, fun n hn => ?_⟩
  have h1 : (l.length : Int) ≤ 9223372036854775807 := by omega
  simp only [forI, h1, decide_true, Bool.and_true, show (-9223372036854775808 : Int) ≤ 0 by decide, cond_true]
  have := hN n hn
  simpa using this
/-- .. without one -/
theorem Conv_forL {l : List α} {f : Int → σ → M (σ ⊕ ρ)} {fin : σ → ρ} {s : σ} (g : Nat → α → σ → σ ⊕ ρ) (hl : l.length ≤ 9223372036854775807)
    (H : ∀ (i : Nat) x s, l[i]? = some x → Conv (f i s) (g i x s)) : Conv (forI 0 (l.length : Int) fin f s) (run g fin 0 l s) :=
  Conv_forI g (fun _ _ => True) hl trivial fun i x s hx _ => ⟨H i x s hx, fun _ _ => trivial⟩
theorem Conv.of {m : M α} {r r' : α} (h : Conv m r) (e : r = r') : Conv m r' := e ▸ h
theorem Conv_ite {b : Bool} {x y : M α} {r : α} (h1 : b = true → Conv x r) (h2 : b = false → Conv y r) : Conv (ite b x y) r := by
  cases b
  · exact h2 rfl
  · exact h1 rfl
theorem Conv_ite2 {b : Bool} {x y : M α} {r s : α} (h1 : b = true → Conv x r) (h2 : b = false → Conv y s) : Conv (ite b x y) (bif b then r else s) := by
  cases b
  · exact h2 rfl
  · exact h1 rfl
theorem Conv_guard {b : Bool} (h : b = true) : Conv (guard b) () := ⟨0, fun _ _ => by simp [guard, h]⟩
theorem Conv_upd {l : List α} {i : Nat} {x : α} (h : i < l.length) : Conv (upd l i x) (l.set i x) := ⟨0, fun _ _ => by simp [upd, h]⟩
theorem Conv_get {l : List α} {i : Int} {x : α} (h0 : 0 ≤ i) (h : l[i.toNat]? = some x) : Conv (idx l i) x := ⟨0, fun _ _ => by simp [idx, h0, h]⟩
/-- a value told in both ways of a test, then the rest -/
theorem Conv_bite {b : Bool} {x y : M α} {f : α → M β} {u v : α} {r : β} (h1 : b = true → Conv x u) (h2 : b = false → Conv y v) (g : Conv (f (bif b then u else v)) r) : Conv (bind (ite b x y) f) r :=
  Conv_bind (Conv_ite2 h1 h2) g

/-! searches: a loop that leaves at the first element of a kind -/
theorem run_all (p : α → Bool) (u : Unit ⊕ ρ) : ∀ (i : Nat) (l : List α), run (ρ := Unit ⊕ ρ) (fun _ x _ => bif p x then .inl () else .inr u) (fun s => .inl s) i l () = bif l.all p then .inl () else u
  | _, [] => rfl
  | i, x :: xs => by
    simp only [run, List.all_cons]
    cases p x
    · rfl
    · simpa using run_all p u (i + 1) xs
/-- 'for .. if not p x, return v' -/
theorem Conv_all {l : List α} {f : Int → Unit → M (Unit ⊕ (Unit ⊕ ρ))} (p : α → Bool) (v : ρ) (hl : l.length ≤ 9223372036854775807) (H : ∀ (i : Nat) x, l[i]? = some x → Conv (f i ()) (bif p x then .inl () else .inr (.inr v))) :
    Conv (forI 0 (l.length : Int) (fun s => .inl s) f ()) (bif l.all p then .inl () else .inr v) :=
  (Conv_forL (fun _ x _ => bif p x then .inl () else .inr (.inr v)) hl fun i x _ hx => H i x hx).of (run_all p (.inr v) 0 l)
/-- the same, where the element's place matters to the test -/
theorem run_allI (p : Nat → α → Bool) (u : Unit ⊕ ρ) : ∀ (i : Nat) (l : List α), run (ρ := Unit ⊕ ρ) (fun j x _ => bif p j x then .inl () else .inr u) (fun s => .inl s) i l () = bif (l.zipIdx i).all (fun q => p q.2 q.1) then .inl () else u
  | _, [] => rfl
  | i, x :: xs => by
    simp only [run, List.zipIdx_cons, List.all_cons]
    cases p i x
    · rfl
    · simpa using run_allI p u (i + 1) xs
theorem Conv_allI {l : List α} {f : Int → Unit → M (Unit ⊕ (Unit ⊕ ρ))} (p : Nat → α → Bool) (v : ρ) (hl : l.length ≤ 9223372036854775807) (H : ∀ (i : Nat) x, l[i]? = some x → Conv (f i ()) (bif p i x then .inl () else .inr (.inr v))) :
    Conv (forI 0 (l.length : Int) (fun s => .inl s) f ()) (bif (l.zipIdx 0).all (fun q => p q.2 q.1) then .inl () else .inr v) :=
  (Conv_forL (fun j x _ => bif p j x then .inl () else .inr (.inr v)) hl fun i x _ hx => H i x hx).of (run_allI p (.inr v) 0 l)
/-- 'for i .. if p x, return i' -/
theorem run_find (p : α → Bool) : ∀ (i : Nat) (l : List α), run (σ := Unit) (ρ := Unit ⊕ Int) (fun j x _ => bif p x then .inr (.inr (j : Int)) else .inl ()) (fun s => .inl s) i l () = match l.findIdx? p with
    | some j => .inr ((i + j : Nat) : Int)
    | none => .inl ()
  | _, [] => rfl
  | i, x :: xs => by
    simp only [run, List.findIdx?_cons]
    cases hp : p x
    · simp only [cond_false, run_find p (i + 1) xs, Bool.false_eq_true, if_false]
      cases xs.findIdx? p with
      | none => rfl
      | some j => simp only [Option.map_some]; congr 2; omega
    · simp
theorem Conv_find {l : List α} {f : Int → Unit → M (Unit ⊕ (Unit ⊕ Int))} (p : α → Bool) (hl : l.length ≤ 9223372036854775807) (H : ∀ (i : Nat) x, l[i]? = some x → Conv (f i ()) (bif p x then .inr (.inr (i : Int)) else .inl ())) :
    Conv (forI 0 (l.length : Int) (fun s => .inl s) f ()) (match l.findIdx? p with | some j => .inr (j : Int) | none => .inl ()) :=
  (Conv_forL (fun j x _ => bif p x then .inr (.inr (j : Int)) else .inl ()) hl fun i x _ hx => H i x hx).of (by rw [run_find]; simp)
/-- sums: each round turns what has been gathered -/
theorem run_fold (g : σ → α → σ) : ∀ (i : Nat) (l : List α) (s : σ), run (fun _ x s => .inl (g s x)) (fun s => s) i l s = l.foldl g s
  | _, [], _ => rfl
  | i, x :: xs, s => by simpa [run] using run_fold g (i + 1) xs (g s x)
theorem Conv_fold {l : List α} {f : Int → σ → M (σ ⊕ σ)} {s : σ} (g : σ → α → σ) (hl : l.length ≤ 9223372036854775807) (H : ∀ (i : Nat) x s, l[i]? = some x → Conv (f i s) (.inl (g s x))) :
    Conv (forI 0 (l.length : Int) (fun s => s) f s) (l.foldl g s) :=
  (Conv_forL (fun _ x s => .inl (g s x)) hl fun i x s hx => H i x s hx).of (run_fold g 0 l s)
theorem get_set_append {l r : List α} {x y : α} : (l ++ y :: r).set l.length x = l ++ x :: r := by simp
/-- a loop that fills a list of the same length, element by element -/
theorem run_fill (g : Nat → α → β) (z : β) : ∀ (i : Nat) (l : List α) (d : List β), d.length = i →
    run (fun j x s => .inl (s.set j (g j x))) (fun s => s) i l (d ++ List.replicate l.length z) = d ++ (l.zipIdx i).map (fun q => g q.2 q.1)
  | _, [], d, _ => by simp [run]
  | i, x :: xs, d, hd => by
    subst hd
    simp only [run, List.length_cons, List.replicate_succ, get_set_append]
    have := run_fill g z (d.length + 1) xs (d ++ [g d.length x]) (by simp)
    simp only [List.append_assoc, List.singleton_append] at this
    rw [this]
    simp
theorem Conv_fill {l : List α} {f : Int → List β → M (List β ⊕ List β)} (g : Nat → α → β) (z : β) (hl : l.length ≤ 9223372036854775807)
    (H : ∀ (i : Nat) x s, l[i]? = some x → s.length = l.length → Conv (f i s) (.inl (s.set i (g i x)))) :
    Conv (forI 0 (l.length : Int) (fun s => s) f (List.replicate l.length z)) ((l.zipIdx 0).map (fun q => g q.2 q.1)) := by
  refine (Conv_forI (fun j x s => .inl (s.set j (g j x))) (fun _ s => s.length = l.length) hl (by simp) fun i x s hx hI => ⟨H i x s hx hI, fun s' e => ?_⟩).of ?_
  · cases e; simpa using hI
  · simpa using run_fill g z 0 l [] rfl
theorem zipIdx_map_fst {l : List α} {g : α → β} {i : Nat} : ((l.zipIdx i).map fun q => g q.1) = l.map g := by
  have h : List.map (g ∘ Prod.fst) (l.zipIdx i) = List.map g l := by rw [← List.map_map, List.zipIdx_map_fst]
  exact h
theorem findIdx_any {l : List α} {p : α → Bool} : (decide ((0:Int) ≤ match l.findIdx? p with | some j => (j : Int) | none => -1)) = l.any p := by
  cases h : l.findIdx? p with
  | none => rw [List.findIdx?_eq_none_iff] at h; simp; exact fun x hx => by simpa using h x hx
  | some j =>
    obtain ⟨hj, hp, _⟩ := List.findIdx?_eq_some_iff_getElem.1 h
    simp
    exact ⟨_, List.getElem_mem hj, hp⟩
end M
def finB (x : Int) : Bool := decide (-1000000 ≤ x) && decide (x ≤ 1000000)
def valB (x : Int) : Bool := x == (-1000000000000000) || finB x
theorem spec_l01In_ok (x lo hi : Int) : M.Conv (spec_l01In x lo hi) (decide (lo ≤ x) && decide (x ≤ hi)) := M.Conv_ret _
theorem impl_within_ok (x lo hi : Int) : M.Conv (impl_within x lo hi) (decide (lo ≤ x) && decide (x ≤ hi)) := M.Conv_ret _
/-- 'slices.ContainsFunc', behind 'slices.IndexFunc' -/
theorem contains_ok {α : Type} {l : List α} {f : Int → Unit → M (Unit ⊕ (Unit ⊕ Int))} (p : α → Bool) (hl : l.length ≤ 9223372036854775807) (H : ∀ (i : Nat) x, l[i]? = some x → M.Conv (f i ()) (bif p x then .inr (.inr (i : Int)) else .inl ())) :
    M.Conv (M.bind (M.bind (M.forI 0 (l.length : Int) (fun s => .inl s) f ()) (fun x1 => M.cont x1 (fun _ => M.ret (-1)) (fun r => M.ret r))) (fun x1 => M.ret (decide (0 ≤ x1)))) (l.any p) := by
  rw [← M.findIdx_any]
  refine M.Conv_bind (M.Conv_bind (M.Conv_find p hl H) ?_) (M.Conv_ret _)
  cases l.findIdx? p <;> exact M.Conv_ret _
theorem any_not {α : Type} {l : List α} {p : α → Bool} : (!l.any fun x => !p x) = l.all p := by
  induction l with
  | nil => rfl
  | cons x xs ih => simp only [List.any_cons, List.all_cons, Bool.not_or, Bool.not_not, ih]
theorem mx_eq (a b : Int) : mx a b = max a b := by unfold mx; split <;> omega
def smI (l : List Int) : Prop := l.length ≤ 1099511627776
theorem finB_bd {x : Int} (h : finB x = true) : -1000000 ≤ x ∧ x ≤ 1000000 := by simpa [finB] using h
theorem val_ne {x : Int} (h : valB x = true) (hn : (x == (-1000000000000000)) = false) : finB x = true := by simpa [valB, hn] using h
/-- an index below k, whose coefficient is finite -/
def termB (c : List Int) (k : Nat) (t : Int) : Prop := 0 ≤ t ∧ t < k ∧ ∃ x, c[t.toNat]? = some x ∧ finB x = true
/-- two programs, one answer -/
def Two {α : Type} (m m' : M α) (Post : α → Prop) : Prop := ∃ r, M.Conv m r ∧ M.Conv m' r ∧ Post r
theorem Two.mk {α : Type} {m m' : M α} {Post : α → Prop} {r : α} (h : M.Conv m r) (h' : M.Conv m' r) (p : Post r) : Two m m' Post := ⟨r, h, h', p⟩
theorem Two.ret {α : Type} {Post : α → Prop} (r : α) (p : Post r) : Two (M.ret r) (M.ret r) Post := ⟨r, M.Conv_ret _, M.Conv_ret _, p⟩
theorem Two.bind {α β : Type} {m m' : M α} {f f' : α → M β} {P : α → Prop} {Q : β → Prop} (h : Two m m' P) (g : ∀ x, P x → Two (f x) (f' x) Q) : Two (M.bind m f) (M.bind m' f') Q := by
  obtain ⟨x, h1, h2, p⟩ := h
  obtain ⟨r, g1, g2, q⟩ := g x p
  exact ⟨r, M.Conv_bind h1 g1, M.Conv_bind h2 g2, q⟩
theorem Two.bindC {α α' β : Type} {m : M α} {m' : M α'} {f : α → M β} {f' : α' → M β} {Q : β → Prop} {x : α} {x' : α'} (h : M.Conv m x) (h' : M.Conv m' x') (g : Two (f x) (f' x') Q) : Two (M.bind m f) (M.bind m' f') Q := by
  obtain ⟨r, g1, g2, q⟩ := g
  exact ⟨r, M.Conv_bind h g1, M.Conv_bind h' g2, q⟩
theorem Two.left {α β : Type} {m : M α} {m' : M β} {f : α → M β} {Q : β → Prop} {x : α} (h : M.Conv m x) (g : Two (f x) m' Q) : Two (M.bind m f) m' Q := by
  obtain ⟨r, g1, g2, q⟩ := g
  exact ⟨r, M.Conv_bind h g1, g2, q⟩
theorem Two.right {α β : Type} {m : M α} {m' : M β} {f : α → M β} {Q : β → Prop} {x : α} (h : M.Conv m x) (g : Two m' (f x) Q) : Two m' (M.bind m f) Q := by
  obtain ⟨r, g1, g2, q⟩ := g
  exact ⟨r, g1, M.Conv_bind h g2, q⟩
theorem Two.ite {α : Type} {b : Bool} {x y x' y' : M α} {Q : α → Prop} (h1 : b = true → Two x x' Q) (h2 : b = false → Two y y' Q) : Two (M.ite b x y) (M.ite b x' y') Q := by
  cases b
  · exact h2 rfl
  · exact h1 rfl
theorem Two.iteL {α : Type} {b : Bool} {x y m' : M α} {Q : α → Prop} (h1 : b = true → Two x m' Q) (h2 : b = false → Two y m' Q) : Two (M.ite b x y) m' Q := by
  cases b
  · exact h2 rfl
  · exact h1 rfl
theorem Two.iteR {α : Type} {b : Bool} {x y m' : M α} {Q : α → Prop} (h1 : b = true → Two m' x Q) (h2 : b = false → Two m' y Q) : Two m' (M.ite b x y) Q := by
  cases b
  · exact h2 rfl
  · exact h1 rfl
theorem Two.mono {α : Type} {m m' : M α} {P Q : α → Prop} (h : Two m m' P) (hp : ∀ r, P r → Q r) : Two m m' Q := let ⟨r, a, b, c⟩ := h; ⟨r, a, b, hp r c⟩
theorem two_forN {σ ρ : Type} {hi : Int} {fin : σ → ρ} {f f' : Int → σ → M (σ ⊕ ρ)} {Post : ρ → Prop} (I : Int → σ → Prop) (lo : Int)
    (round : ∀ i s, lo ≤ i → i < hi → I i s → Two (f i s) (f' i s) fun y => (∃ s', y = .inl s' ∧ I (i + 1) s') ∨ (∃ r, y = .inr r ∧ Post r)) :
    ∀ (d : Nat) (i : Int) (s : σ), (hi - i).toNat = d → lo ≤ i → (i ≤ hi ∨ i = lo) → I i s → (∀ i s, (i = hi ∨ i = lo ∧ hi ≤ lo) → I i s → Post (fin s)) → ∃ r, (∃ N, ∀ n, N ≤ n → M.forN hi fin f n d i s = some r) ∧ (∃ N, ∀ n, N ≤ n → M.forN hi fin f' n d i s = some r) ∧ Post r
  | 0, i, s, hd, h1, h2, hI, fi => by
    have hge : ¬ i < hi := by omega
    exact ⟨fin s, ⟨0, fun n _ => by simp [M.forN, hge]⟩, ⟨0, fun n _ => by simp [M.forN, hge]⟩, fi i s (by omega) hI⟩
  | d + 1, i, s, hd, h1, h2, hI, fi => by
    have hlt : i < hi := by omega
    obtain ⟨y, ⟨N, hy⟩, ⟨N', hy'⟩, hc⟩ := round i s h1 hlt hI
    rcases hc with ⟨s', rfl, hI'⟩ | ⟨r, rfl, hp⟩
    · obtain ⟨r, ⟨N1, h3⟩, ⟨N2, h4⟩, hp⟩ := two_forN (fin := fin) I lo round d (i + 1) s' (by omega) (by omega) (by omega) hI' fi
      exact ⟨r, ⟨max N N1, fun n hn => by simp [M.forN, hlt, hy n (by omega), h3 n (by omega)]⟩, ⟨max N' N2, fun n hn => by simp [M.forN, hlt, hy' n (by omega), h4 n (by omega)]⟩, hp⟩
    · exact ⟨r, ⟨N, fun n hn => by simp [M.forN, hlt, hy n hn]⟩, ⟨N', fun n hn => by simp [M.forN, hlt, hy' n hn]⟩, hp⟩
theorem Two.for {σ ρ : Type} {lo hi : Int} {fin : σ → ρ} {f f' : Int → σ → M (σ ⊕ ρ)} {s : σ} {Post : ρ → Prop} (I : Int → σ → Prop) (hlo : -9223372036854775808 ≤ lo) (hhi : hi ≤ 9223372036854775807) (h0 : I lo s)
    (round : ∀ i s, lo ≤ i → i < hi → I i s → Two (f i s) (f' i s) fun y => (∃ s', y = .inl s' ∧ I (i + 1) s') ∨ (∃ r, y = .inr r ∧ Post r)) (done : ∀ i s, (i = hi ∨ i = lo ∧ hi ≤ lo) → I i s → Post (fin s)) :
    Two (M.forI lo hi fin f s) (M.forI lo hi fin f' s) Post := by
  obtain ⟨r, ⟨N, h1⟩, ⟨N', h2⟩, hp⟩ := two_forN (fin := fin) I lo round _ lo s rfl (Int.le_refl _) (.inr rfl) h0 done
  exact ⟨r, ⟨N, fun n hn => by simp [M.forI, hlo, hhi, h1 n hn]⟩, ⟨N', fun n hn => by simp [M.forI, hlo, hhi, h2 n hn]⟩, hp⟩
def timesI (a b : Int) : Int := bif (a == (-1000000000000000)) || (b == (-1000000000000000)) then (-1000000000000000) else w64 (a + b)
theorem Two.ofConv {α : Type} {m m' : M α} {P : α → Prop} {r : α} (h : M.Conv m r) (h' : M.Conv m' r) (p : P r) : Two m m' P := ⟨r, h, h', p⟩
def okTPlace (p : TPlace) : Prop := inI64 p.From ∧ inI64 p.To ∧ inI64 p.Delay ∧ inI64 p.Tokens
def okTGraph (g : TGraph) : Prop := inI64 g.Events ∧ fitL okTPlace g.Places
def smP (l : List TPlace) : Prop := l.length ≤ 1099511627
def smG (g : TGraph) : Prop := smP g.Places
theorem Conv_and {b v : Bool} {m : M Bool} (h : b = true → M.Conv m v) : M.Conv (M.ite b (M.bind m (fun x => M.ret x)) (M.ret false)) (b && v) := by
  refine M.Conv_ite (fun q => ?_) (fun q => ?_)
  · rw [q]; exact M.Conv_bind (h q) (M.Conv_ret _)
  · rw [q]; exact M.Conv_ret _
def inB (x lo hi : Int) : Bool := decide (lo ≤ x) && decide (x ≤ hi)
def placeB (e : Int) (p : TPlace) : Bool := ((inB p.From 0 (w64 (e - 1)) && inB p.To 0 (w64 (e - 1))) && inB p.Delay 0 1000) && inB p.Tokens 0 5
theorem spec_l11Place_ok (p : TPlace) (e : Int) : M.Conv (spec_l11Place p e) (placeB e p) :=
  M.Conv_bind (spec_l01In_ok _ _ _) (M.Conv_bind (Conv_and fun _ => spec_l01In_ok _ _ _) (M.Conv_bind (Conv_and fun _ => spec_l01In_ok _ _ _) (M.Conv_bind (Conv_and fun _ => spec_l01In_ok _ _ _) (M.Conv_ret _))))
theorem impl_isEvent_ok (g : TGraph) (e : Int) : M.Conv (impl_isEvent g e) (inB e 0 (w64 (g.Events - 1))) := M.Conv_bind (impl_within_ok _ _ _) (M.Conv_ret _)
theorem impl_isPlace_ok (g : TGraph) (p : TPlace) : M.Conv (impl_isPlace g p) (placeB g.Events p) :=
  M.Conv_bind (impl_isEvent_ok _ _) (M.Conv_bind (Conv_and fun _ => impl_isEvent_ok _ _) (M.Conv_bind (Conv_and fun _ => impl_within_ok _ _ _) (M.Conv_bind (Conv_and fun _ => impl_within_ok _ _ _) (M.Conv_ret _))))
def graphB (g : TGraph) : Bool := (inB g.Events 1 10 && decide (g.Places.length ≤ 30)) && g.Places.all (placeB g.Events)
/-- 'for i < len(l)', the counter a variable; a round may leave -/
def runO {α ρ : Type} (g : Nat → α → Option ρ) (e : ρ) : Nat → List α → ρ
  | _, [] => e
  | i, x :: xs => match g i x with | none => runO g e (i + 1) xs | some r => r
theorem Conv_while {α ρ : Type} {l : List α} {f : Int → M (Int ⊕ ρ)} (g : Nat → α → Option ρ) (e : ρ) (step : ∀ (i : Nat) x, l[i]? = some x → M.Conv (f i) (match g i x with | none => .inl ((i : Int) + 1) | some r => .inr r)) (stop : M.Conv (f (l.length : Int)) (.inr e)) :
    M.Conv (M.loop f 0) (runO g e 0 l) := by
  have key : ∀ (xs : List α) (i : Nat), (∀ (j : Nat) x, xs[j]? = some x → M.Conv (f (i + j : Nat)) (match g (i + j) x with | none => .inl (((i + j : Nat) : Int) + 1) | some r => .inr r)) → M.Conv (f (i + xs.length : Nat)) (.inr e) →
      ∃ N m0, ∀ n, N ≤ n → ∀ m, m0 ≤ m → M.loopN f n m (i : Int) = some (runO g e i xs) := by
    intro xs
    induction xs with
    | nil =>
      intro i _ ⟨N, h⟩
      refine ⟨N, 1, fun n hn m hm => ?_⟩
      obtain ⟨m, rfl⟩ : ∃ q, m = q + 1 := ⟨m - 1, by omega⟩
      have := h n hn
      simp only [List.length_nil, Nat.add_zero] at this
      simp [M.loopN, this, runO]
    | cons x xs ih =>
      intro i hs hst
      obtain ⟨N, h⟩ := hs 0 x rfl
      simp only [Nat.add_zero] at h
      cases hg : g i x with
      | none =>
        obtain ⟨N', m0, h'⟩ := ih (i + 1) (fun j y hy => by have := hs (j + 1) y (by simpa using hy); rw [show i + (j + 1) = i + 1 + j by omega] at this; exact this) (by rw [show i + 1 + xs.length = i + (x :: xs).length by simp; omega]; exact hst)
        refine ⟨max N N', m0 + 1, fun n hn m hm => ?_⟩
        obtain ⟨m, rfl⟩ : ∃ q, m = q + 1 := ⟨m - 1, by omega⟩
        have h1 := h n (by omega)
        rw [hg] at h1
        simp only [M.loopN, h1, runO, hg]
        exact h' n (by omega) m (by omega)
      | some r =>
        refine ⟨N, 1, fun n hn m hm => ?_⟩
        obtain ⟨m, rfl⟩ : ∃ q, m = q + 1 := ⟨m - 1, by omega⟩
        have h1 := h n hn
        rw [hg] at h1
        simp only [M.loopN, h1, runO, hg]
  obtain ⟨N, m0, h⟩ := key l 0 (fun j x hx => by simpa using step j x hx) (by simpa using stop)
  exact ⟨max N m0, fun n hn => h n (by omega) n (by omega)⟩
theorem runO_all {α ρ : Type} (p : α → Bool) (r e : ρ) : ∀ (l : List α) (i : Nat), runO (fun _ x => bif p x then none else some r) e i l = bif l.all p then e else r
  | [], _ => rfl
  | x :: xs, i => by
    simp only [runO, List.all_cons]
    cases p x with
    | true => simpa using runO_all p r e xs (i + 1)
    | false => rfl
theorem spec_IsEventGraph_ok {g : TGraph} (hl : g.Places.length ≤ 9223372036854775806) : M.Conv (spec_IsEventGraph g) (graphB g) := by
  unfold spec_IsEventGraph
  refine M.Conv_bind ((Conv_while (l := g.Places) (fun _ p => bif placeB g.Events p then none else some (.inr false)) (.inl (g.Places.length : Int)) (fun i p hp => ?_) ?_).of (runO_all _ _ _ _ _)) ?_
  · have hi := (List.getElem?_eq_some_iff.1 hp).1
    refine M.Conv_ite (fun _ => M.Conv_bind (M.Conv_get (by omega) (by simpa using hp)) (M.Conv_bind (spec_l11Place_ok _ _) (M.Conv_ite (fun q => ?_) (fun q => ?_)))) (fun q => by have := of_decide_eq_false q; omega)
    · simp only [Bool.not_eq_true'] at q; rw [q]; exact M.Conv_ret _
    · simp only [Bool.not_eq_false'] at q; rw [q]; exact (M.Conv_ret _).of (by rw [w64_eq _ (by omega)]; rfl)
  · exact M.Conv_ite (fun q => by have := of_decide_eq_true q; omega) (fun _ => M.Conv_ret _)
  · cases hb : g.Places.all (placeB g.Events) with
    | false => exact (M.Conv_ret _).of (by simp [graphB, hb])
    | true =>
      show M.Conv (M.bind (spec_l01In g.Events 1 10) (fun x4 => M.ret (x4 && (decide ((g.Places.length : Int) ≤ 30))))) _
      refine M.Conv_bind (spec_l01In_ok _ _ _) ((M.Conv_ret _).of ?_)
      simp only [graphB, hb, inB, Bool.and_true]
      rw [decide_eq_decide.2 (show (g.Places.length : Int) ≤ 30 ↔ g.Places.length ≤ 30 by omega)]
theorem impl_IsEventGraph_ok {g : TGraph} (hl : g.Places.length ≤ 9223372036854775806) : M.Conv (impl_IsEventGraph g) (graphB g) := by
  unfold impl_IsEventGraph slices_ContainsFunc_Place_F_impl_IsEventGraph_1 slices_IndexFunc_Place_F_impl_IsEventGraph_1
  refine M.Conv_bind (impl_within_ok _ _ _) (M.Conv_bind (x := graphB g) ?_ (M.Conv_ret _))
  have e : ((decide (1 ≤ g.Events) && decide (g.Events ≤ 10)) && decide ((g.Places.length : Int) ≤ 30)) = (inB g.Events 1 10 && decide (g.Places.length ≤ 30)) := by
    rw [decide_eq_decide.2 (show (g.Places.length : Int) ≤ 30 ↔ g.Places.length ≤ 30 by omega)]; rfl
  rw [e]
  refine M.Conv_ite (fun q => ?_) (fun q => (M.Conv_ret _).of (by simp [graphB, q]))
  refine M.Conv_bind (contains_ok (fun p => !placeB g.Events p) (by omega) fun i p hp => ?_) ((M.Conv_ret _).of ?_)
  · refine M.Conv_bind (M.Conv_get (by omega) (by simpa using hp)) (M.Conv_bind (x := !placeB g.Events p) (M.Conv_bind (impl_isPlace_ok _ _) (M.Conv_ret _)) ?_)
    cases placeB g.Events p <;> exact M.Conv_ret _
  · rw [any_not]; simp [graphB, q]
def smII (a : List (List Int)) : Prop := a.length ≤ 1048576 ∧ ∀ r ∈ a, r.length ≤ 1048576
def widthN (a : List (List Int)) : Nat := (a.headD []).length
def matB (a : List (List Int)) : Bool := (decide (1 ≤ a.length) && decide (a.length ≤ 10)) && ((decide (1 ≤ widthN a) && decide (widthN a ≤ 10)) && a.all fun r => decide (r.length = widthN a) && r.all valB)
/-- a matrix of w columns -/
structure Mat (a : List (List Int)) (w : Nat) : Prop where
  rows : 1 ≤ a.length ∧ a.length ≤ 10
  cols : 1 ≤ w ∧ w ≤ 10
  row : ∀ r ∈ a, r.length = w ∧ ∀ x ∈ r, valB x = true
def foldI {α σ : Type} (g : Nat → α → σ → σ) : Nat → List α → σ → σ
  | _, [], s => s
  | i, x :: xs, s => foldI g (i + 1) xs (g i x s)
/-- a loop whose state has a counter -/
theorem Conv_whileS {σ ρ : Type} {n : Nat} {f : σ × Int → M ((σ × Int) ⊕ ρ)} (g : Nat → σ → σ) (I : Nat → σ → Prop) (e : σ → ρ) (s0 : σ) (h0 : I 0 s0)
    (step : ∀ i s, i < n → I i s → M.Conv (f (s, (i : Int))) (.inl (g i s, (i : Int) + 1)) ∧ I (i + 1) (g i s)) (stop : ∀ s, I n s → M.Conv (f (s, (n : Int))) (.inr (e s))) : ∃ s, I n s ∧ M.Conv (M.loop f (s0, 0)) (e s) := by
  have key : ∀ (d i : Nat) (s : σ), i + d = n → I i s → ∃ s', I n s' ∧ ∃ N m0, ∀ k, N ≤ k → ∀ m, m0 ≤ m → M.loopN f k m (s, (i : Int)) = some (e s') := by
    intro d
    induction d with
    | zero =>
      intro i s hi hI
      obtain rfl : i = n := by omega
      obtain ⟨N, h⟩ := stop s hI
      refine ⟨s, hI, N, 1, fun k hk m hm => ?_⟩
      obtain ⟨m, rfl⟩ : ∃ q, m = q + 1 := ⟨m - 1, by omega⟩
      simp [M.loopN, h k hk]
    | succ d ih =>
      intro i s hi hI
      obtain ⟨⟨N, h⟩, hI'⟩ := step i s (by omega) hI
      obtain ⟨s', hs', N', m0, h'⟩ := ih (i + 1) (g i s) (by omega) hI'
      refine ⟨s', hs', max N N', m0 + 1, fun k hk m hm => ?_⟩
      obtain ⟨m, rfl⟩ : ∃ q, m = q + 1 := ⟨m - 1, by omega⟩
      simp only [M.loopN, h k (by omega)]
      have := h' k (by omega) m (by omega)
      simpa using this
  obtain ⟨s, hs, N, m0, h⟩ := key n 0 s0 (by omega) h0
  exact ⟨s, hs, max N m0, fun k hk => h k (by omega) k (by omega)⟩
theorem Conv_whileV {σ ρ : Type} {n : Nat} {f : σ × Int → M ((σ × Int) ⊕ ρ)} (val : Nat → σ) (r : ρ) (step : ∀ (i : Nat), i < n → M.Conv (f (val i, (i : Int))) (.inl (val (i + 1), (i : Int) + 1))) (stop : M.Conv (f (val n, (n : Int))) (.inr r)) : M.Conv (M.loop f (val 0, 0)) r := by
  obtain ⟨s, _, h⟩ := Conv_whileS (n := n) (f := f) (fun i _ => val (i + 1)) (fun i s => s = val i) (fun _ => r) (val 0) rfl (fun i s hi hs => by subst hs; exact ⟨step i hi, rfl⟩) (fun s hs => by subst hs; exact stop)
  exact h
theorem val_cases {x : Int} (h : valB x = true) : x = -1000000000000000 ∨ (-1000000 ≤ x ∧ x ≤ 1000000) := by
  cases hb : (x == (-1000000000000000)) with
  | true => left; simpa using hb
  | false => right; exact finB_bd (val_ne h hb)
def dotL (x row : List Int) : Int := foldI (fun j v s => mx s (timesI v ((x[j]?).getD 0))) 0 row (-1000000000000000)
/-- the indices of the places of a kind -/
def idxs (p : TPlace → Bool) (l : List TPlace) : List Int := ((l.zipIdx 0).filter fun q => p q.1).map fun q => (q.2 : Int)
theorem idxs_step {p : TPlace → Bool} {l : List TPlace} {i : Nat} {x : TPlace} (h : l[i]? = some x) : idxs p (l.take (i + 1)) = bif p x then idxs p (l.take i) ++ [(i : Int)] else idxs p (l.take i) := by
  have hi := (List.getElem?_eq_some_iff.1 h).1
  have e : l.take (i + 1) = l.take i ++ [x] := by rw [List.take_add_one, h]; rfl
  have htl : (l.take i).length = i := by rw [List.length_take]; omega
  rw [e]
  simp only [idxs, List.zipIdx_append, htl, List.filter_append, List.map_append, Nat.zero_add]
  cases hp : p x <;> simp [hp]
theorem idxs_len (p : TPlace → Bool) (l : List TPlace) : (idxs p l).length ≤ l.length := by
  simp only [idxs, List.length_map]
  exact Nat.le_trans (List.length_filter_le _ _) (by simp)
theorem Conv_forV {σ : Type} {n : Nat} {f : Int → σ → M (σ ⊕ σ)} (val : Nat → σ) (hn : n ≤ 9223372036854775807) (h : ∀ i, i < n → M.Conv (f i (val i)) (.inl (val (i + 1)))) : M.Conv (M.forI 0 (n : Int) (fun s => s) f (val 0)) (val n) := by
  have := M.Conv_forI (l := List.range n) (f := f) (fin := fun s => s) (s := val 0) (ρ := σ) (fun i _ _ => .inl (val (i + 1))) (fun i s => s = val i) (by simpa using hn) rfl (fun i x s hx hs => by
    subst hs
    have hi := (List.getElem?_eq_some_iff.1 hx).1
    exact ⟨h i (by simpa using hi), fun s' e => by cases e; rfl⟩)
  simp only [List.length_range] at this
  refine this.of ?_
  have run : ∀ (m i : Nat), M.run (σ := σ) (ρ := σ) (fun i (_ : Nat) _ => .inl (val (i + 1))) (fun s => s) i (List.range m) (val i) = val (i + m) := by
    have g : ∀ (l : List Nat) (i : Nat), M.run (σ := σ) (ρ := σ) (fun i (_ : Nat) _ => .inl (val (i + 1))) (fun s => s) i l (val i) = val (i + l.length) := by
      intro l
      induction l with
      | nil => intro i; rfl
      | cons x xs ih => intro i; simp only [M.run, List.length_cons]; rw [ih (i + 1)]; congr 1; omega
    intro m i
    rw [g, List.length_range]
  simpa using run n 0
theorem spec_l11Places_ok (g : TGraph) (e : Int) (into : Bool) (h : g.Places.length ≤ 1099511627) : M.Conv (spec_l11Places g e into) (idxs (fun p => bif into then p.To == e else p.From == e) g.Places) := by
  unfold spec_l11Places
  have fin : idxs (fun p => bif into then p.To == e else p.From == e) (g.Places.take g.Places.length) = idxs (fun p => bif into then p.To == e else p.From == e) g.Places := by rw [List.take_length]
  refine M.Conv_bind (x := (idxs (fun p => bif into then p.To == e else p.From == e) g.Places, (g.Places.length : Int))) (Conv_whileV (n := g.Places.length) (fun i => idxs (fun p => bif into then p.To == e else p.From == e) (g.Places.take i)) _ (fun i hi => ?_) ?_) (M.Conv_ret _)
  · refine M.Conv_ite (fun _ => ?_) (fun q => by have := of_decide_eq_false q; simp at this; omega)
    have hx : g.Places[i]? = some g.Places[i] := List.getElem?_eq_getElem hi
    have hg : M.Conv (M.idx g.Places (i : Int)) g.Places[i] := M.Conv_get (by omega) (by rw [Int.toNat_natCast]; exact hx)
    have hlen := idxs_len (fun p => bif into then p.To == e else p.From == e) (g.Places.take i)
    rw [List.length_take] at hlen
    rw [idxs_step hx]
    refine M.Conv_bind (x := into && (g.Places[i].To == e)) (M.Conv_ite (fun q => ?_) (fun q => ?_)) (M.Conv_bind (x := bif into then g.Places[i].To == e else g.Places[i].From == e) (M.Conv_ite (fun q => ?_) (fun q => ?_)) ?_)
    · rw [q]; exact M.Conv_bind hg (M.Conv_ret _)
    · rw [q]; exact M.Conv_ret _
    · refine (M.Conv_ret _).of ?_
      simp only [Bool.and_eq_true] at q; simp only [q.1, cond_true, q.2]
    · refine M.Conv_bind (x := bif into then g.Places[i].To == e else g.Places[i].From == e) (M.Conv_ite (fun t => ?_) (fun t => (M.Conv_ret _).of ?_)) (M.Conv_ret _)
      · simp only [Bool.not_eq_true'] at t; rw [t]; exact M.Conv_bind hg (M.Conv_ret _)
      · simp only [Bool.not_eq_false'] at t; rw [t] at q; simp only [Bool.true_and] at q; simp only [t, cond_true, q]
    · cases (bif into then g.Places[i].To == e else g.Places[i].From == e) with
      | true => exact M.Conv_bind (M.Conv_ite (fun _ => M.Conv_bind (M.Conv_app (by simp; omega)) (M.Conv_ret _)) (fun q => by cases q)) ((M.Conv_ret _).of (by rw [w64_eq _ (by omega)]; rfl))
      | false => exact M.Conv_bind (M.Conv_ite (fun q => by cases q) (fun _ => M.Conv_ret _)) ((M.Conv_ret _).of (by rw [w64_eq _ (by omega)]; rfl))
  · refine M.Conv_ite (fun q => by have := of_decide_eq_true q; simp at this) (fun _ => (M.Conv_ret _).of (by rw [List.take_length]))
theorem placesWith_ok (g : TGraph) (p : TPlace → Bool) (F : TPlace → M Bool) (hF : ∀ x, M.Conv (F x) (p x)) (h : g.Places.length ≤ 1099511627) :
    M.Conv (M.bind (M.forI 0 (g.Places.length : Int) (fun s => s) (fun i1 => (fun (s1 : (List Int)) => M.bind (M.idx g.Places i1) (fun x2 => M.bind (F x2) (fun x3 => M.bind (M.ite x3 (M.bind (M.app s1 ([i1] : List Int)) (fun l1 => M.ret l1)) (M.ret s1)) (fun (s2 : (List Int)) => M.ret (.inl s2)))))) []) (fun x1 => M.ret x1)) (idxs p g.Places) := by
  refine M.Conv_bind ((Conv_forV (n := g.Places.length) (fun i => idxs p (g.Places.take i)) (by omega) fun i hi => ?_).of (by rw [List.take_length])) (M.Conv_ret _)
  have hx : g.Places[i]? = some g.Places[i] := List.getElem?_eq_getElem hi
  have hlen := idxs_len p (g.Places.take i)
  rw [List.length_take] at hlen
  rw [idxs_step hx]
  refine M.Conv_bind (M.Conv_get (x := g.Places[i]) (by omega) (by rw [Int.toNat_natCast]; exact hx)) (M.Conv_bind (hF _) ?_)
  cases p g.Places[i] with
  | true => exact M.Conv_bind (M.Conv_ite (fun _ => M.Conv_bind (M.Conv_app (by simp; omega)) (M.Conv_ret _)) (fun q => by cases q)) (M.Conv_ret _)
  | false => exact M.Conv_bind (M.Conv_ite (fun q => by cases q) (fun _ => M.Conv_ret _)) (M.Conv_ret _)
def eventC (g : TGraph) (e : Int) : Int := bif graphB g then bif inB e 0 (w64 (g.Events - 1)) then 0 else 2 else 1
theorem spec_l11Event_ok (g : TGraph) (e : Int) (s : smG g) : M.Conv (spec_l11Event g e) (eventC g e) := by
  unfold smG smP at s
  refine M.Conv_bind (spec_IsEventGraph_ok (by omega)) (M.Conv_ite (fun q => (M.Conv_ret _).of ?_) (fun q => M.Conv_bind (spec_l01In_ok _ _ _) (M.Conv_ite (fun t => (M.Conv_ret _).of ?_) (fun t => (M.Conv_ret _).of ?_))))
  · simp only [Bool.not_eq_true'] at q; simp [eventC, q]
  · simp only [Bool.not_eq_false'] at q; simp only [Bool.not_eq_true'] at t; simp only [eventC, q, inB, t, cond_true, cond_false]
  · simp only [Bool.not_eq_false'] at q t; simp only [eventC, q, inB, t, cond_true]
theorem impl_checkEvent_ok (g : TGraph) (e : Int) (s : smG g) : M.Conv (impl_checkEvent g e) (eventC g e) := by
  unfold smG smP at s
  refine M.Conv_bind (impl_IsEventGraph_ok (by omega)) (M.Conv_ite (fun q => (M.Conv_ret _).of ?_) (fun q => M.Conv_bind (impl_isEvent_ok _ _) (M.Conv_ite (fun t => (M.Conv_ret _).of ?_) (fun t => (M.Conv_ret _).of ?_))))
  · simp only [Bool.not_eq_true'] at q; simp [eventC, q]
  · simp only [Bool.not_eq_false'] at q; simp only [Bool.not_eq_true'] at t; simp only [eventC, q, t, cond_true, cond_false]
  · simp only [Bool.not_eq_false'] at q t; simp only [eventC, q, t, cond_true]
theorem same_PlacesFrom (g : TGraph) (_ : okTGraph g) (e : Int) (_ : inI64 e) (s : smG g) : Two (spec_PlacesFrom g e) (impl_PlacesFrom g e) (fun w => smI w.1) := by
  have hs := s
  unfold smG smP at hs
  unfold spec_PlacesFrom impl_PlacesFrom
  refine Two.bindC (spec_l11Event_ok g e s) (impl_checkEvent_ok g e s) (Two.ite (fun _ => Two.ret _ (by simp [smI])) (fun _ => ?_))
  have k1 := spec_l11Places_ok g e false (by omega)
  have k2 := placesWith_ok g (fun p => p.From == e) (fun p => impl_PlacesFrom_1 p e) (fun x => M.Conv_ret _) (by omega)
  have hl := idxs_len (fun p => p.From == e) g.Places
  exact Two.bindC k1 k2 (Two.ret _ (by simp only [smI, cond_false]; omega))
theorem same_PlacesInto (g : TGraph) (_ : okTGraph g) (e : Int) (_ : inI64 e) (s : smG g) : Two (spec_PlacesInto g e) (impl_PlacesInto g e) (fun w => smI w.1) := by
  have hs := s
  unfold smG smP at hs
  unfold spec_PlacesInto impl_PlacesInto
  refine Two.bindC (spec_l11Event_ok g e s) (impl_checkEvent_ok g e s) (Two.ite (fun _ => Two.ret _ (by simp [smI])) (fun _ => ?_))
  have k1 := spec_l11Places_ok g e true (by omega)
  have k2 := placesWith_ok g (fun p => p.To == e) (fun p => impl_PlacesInto_1 p e) (fun x => M.Conv_ret _) (by omega)
  have hl := idxs_len (fun p => p.To == e) g.Places
  exact Two.bindC k1 k2 (Two.ret _ (by simp only [smI, cond_true]; omega))
def ConvL {σ ρ : Type} (f : σ → M (σ ⊕ ρ)) (s : σ) (r : ρ) : Prop := ∃ N m0, ∀ n, N ≤ n → ∀ m, m0 ≤ m → M.loopN f n m s = some r
theorem ConvL.conv {σ ρ : Type} {f : σ → M (σ ⊕ ρ)} {s : σ} {r : ρ} (h : ConvL f s r) : M.Conv (M.loop f s) r := by
  obtain ⟨N, m0, h⟩ := h
  exact ⟨max N m0, fun n hn => h n (by omega) n (by omega)⟩
theorem ConvL.step {σ ρ : Type} {f : σ → M (σ ⊕ ρ)} {s s' : σ} {r : ρ} (h1 : M.Conv (f s) (.inl s')) (h : ConvL f s' r) : ConvL f s r := by
  obtain ⟨N, h1⟩ := h1
  obtain ⟨N', m0, h⟩ := h
  refine ⟨max N N', m0 + 1, fun n hn m hm => ?_⟩
  obtain ⟨m, rfl⟩ : ∃ q, m = q + 1 := ⟨m - 1, by omega⟩
  simp only [M.loopN, h1 n (by omega)]
  exact h n (by omega) m (by omega)
theorem ConvL.stop {σ ρ : Type} {f : σ → M (σ ⊕ ρ)} {s : σ} {r : ρ} (h1 : M.Conv (f s) (.inr r)) : ConvL f s r := by
  obtain ⟨N, h1⟩ := h1
  refine ⟨N, 1, fun n hn m hm => ?_⟩
  obtain ⟨m, rfl⟩ : ∃ q, m = q + 1 := ⟨m - 1, by omega⟩
  simp only [M.loopN, h1 n hn]
theorem spec_l11Own_ok {g : TGraph} (h : smG g) : M.Conv (spec_l11Own g) g := by
  unfold smG smP at h
  exact M.Conv_bind (M.Conv_app (by simp; omega)) ((M.Conv_ret _).of (by simp))
theorem slices_Clone_Place_ok {l : List TPlace} (h : smP l) : M.Conv (slices_Clone_Place l) l := by
  unfold smP at h
  exact M.Conv_bind (M.Conv_app (by simp; omega)) ((M.Conv_ret _).of (by simp))
theorem impl_cloneGraph_ok {g : TGraph} (h : smG g) : M.Conv (impl_cloneGraph g) g := M.Conv_bind (slices_Clone_Place_ok h) (M.Conv_ret _)
def entA (a : List (List Int)) (i j : Nat) : Int := (((a[i]?).getD [])[j]?).getD 0
theorem placeRow {l : List TPlace} {i : Int} (h0 : 0 ≤ i) (h1 : i < l.length) : ∃ p, l[i.toNat]? = some p ∧ M.Conv (M.idx l i) p := by
  have : l[i.toNat]? = some (l[i.toNat]'(by omega)) := List.getElem?_eq_getElem _
  exact ⟨_, this, M.Conv_get h0 this⟩
theorem updC {α : Type} {l : List α} {i : Int} (x : α) (h0 : 0 ≤ i) (h1 : i < l.length) : M.Conv (M.upd l i x) (l.set i.toNat x) := by
  have := M.Conv_upd (l := l) (i := i.toNat) (x := x) (by omega)
  rwa [Int.toNat_of_nonneg h0] at this
theorem same_ChangePlace (g : TGraph) (_ : okTGraph g) (i : Int) (_ : inI64 i) (delay : Int) (_ : inI64 delay) (tokens : Int) (_ : inI64 tokens) (s : smG g) : Two (spec_ChangePlace g i delay tokens) (impl_ChangePlace g i delay tokens) (fun w => smG w.1) := by
  have sm0 : smG (⟨0, []⟩ : TGraph) := by simp [smG, smP]
  have hlen : g.Places.length ≤ 9223372036854775806 := by have := s; simp only [smG, smP] at this; omega
  unfold spec_ChangePlace impl_ChangePlace
  refine Two.right (impl_IsEventGraph_ok hlen) ?_
  have hI : M.Conv (spec_l11Index g i) (bif graphB g then bif inB i 0 (w64 ((g.Places.length : Int) - 1)) then 0 else 2 else 1) := by
    unfold spec_l11Index
    refine M.Conv_bind (spec_IsEventGraph_ok hlen) ?_
    refine M.Conv_ite (fun t => (M.Conv_ret _).of (by cases h : graphB g <;> simp_all)) (fun t => ?_)
    rw [show graphB g = true by simpa using t]
    refine M.Conv_bind (spec_l01In_ok _ _ _) ?_
    exact M.Conv_ite (fun t => (M.Conv_ret _).of (by rw [Bool.not_eq_true'] at t; simp only [inB]; rw [t]; rfl)) (fun t => (M.Conv_ret _).of (by rw [Bool.not_eq_false'] at t; simp only [inB]; rw [t]; rfl))
  refine Two.left hI ?_
  cases hg : graphB g with
  | false =>
    refine Two.iteR (fun _ => ?_) (fun t => by simp at t)
    exact Two.ofConv (M.Conv_bind (M.Conv_ite (fun t => by simp at t) (fun _ => M.Conv_ret _)) (M.Conv_bind (M.Conv_ite (fun t => by simp at t) (fun _ => M.Conv_ret _)) (M.Conv_ite (fun _ => M.Conv_ret _) (fun t => by simp at t)))) (M.Conv_ret _) sm0
  | true =>
    refine Two.iteR (fun t => by simp at t) (fun _ => ?_)
    refine Two.right (impl_within_ok _ _ _) ?_
    cases hi : inB i 0 (w64 ((g.Places.length : Int) - 1)) with
    | false =>
      refine Two.ofConv (r := (⟨0, []⟩, 2)) ?_ ?_ sm0
      · exact M.Conv_bind (M.Conv_ite (fun t => by simp at t) (fun _ => M.Conv_ret _)) (M.Conv_bind (M.Conv_ite (fun t => by simp at t) (fun _ => M.Conv_ret _)) (M.Conv_ite (fun _ => M.Conv_ret _) (fun t => by simp at t)))
      · refine M.Conv_bind (x := true) (M.Conv_ite (fun _ => M.Conv_ret _) (fun t => ?_)) (M.Conv_bind (x := true) (M.Conv_ite (fun _ => M.Conv_ret _) (fun t => by simp at t)) (M.Conv_ite (fun _ => M.Conv_ret _) (fun t => by simp at t)))
        exfalso; revert t; simp only [inB] at hi; rw [hi]; simp
    | true =>
      have hi' := hi
      simp only [inB] at hi'
      rw [hi']
      simp only [Bool.and_eq_true, decide_eq_true_eq] at hi'
      have hlt : i < g.Places.length := by have := s; simp only [smG, smP] at this; rw [w64_eq _ (by omega)] at hi'; omega
      obtain ⟨p, hp, hpc⟩ := placeRow hi'.1 hlt
      refine Two.left (x := !((decide (0 ≤ delay) && decide (delay ≤ 1000)) && (decide (0 ≤ tokens) && decide (tokens ≤ 5)))) ?_ ?_
      · refine M.Conv_ite (fun _ => M.Conv_bind (spec_l01In_ok _ _ _) (M.Conv_bind (x := !((decide (0 ≤ delay) && decide (delay ≤ 1000)) && (decide (0 ≤ tokens) && decide (tokens ≤ 5)))) (M.Conv_ite (fun t => (M.Conv_ret _).of ?_) (fun t => M.Conv_bind (spec_l01In_ok _ _ _) ((M.Conv_ret _).of ?_))) (M.Conv_ret _))) (fun t => by simp at t)
        · rw [Bool.not_eq_true'] at t; rw [t]; rfl
        · rw [Bool.not_eq_false'] at t; rw [t]; rfl
      · refine Two.right (M.Conv_ite (r := !(decide (0 ≤ delay) && decide (delay ≤ 1000))) (fun t => by simp at t) (fun _ => M.Conv_bind (impl_within_ok _ _ _) (M.Conv_ret _))) ?_
        refine Two.right (x := !((decide (0 ≤ delay) && decide (delay ≤ 1000)) && (decide (0 ≤ tokens) && decide (tokens ≤ 5)))) ?_ ?_
        · refine M.Conv_ite (fun t => (M.Conv_ret _).of ?_) (fun t => M.Conv_bind (impl_within_ok _ _ _) ((M.Conv_ret _).of ?_))
          · rw [Bool.not_eq_true'] at t; rw [t]; rfl
          · rw [Bool.not_eq_false'] at t; rw [t]; rfl
        · generalize ((decide (0 ≤ delay) && decide (delay ≤ 1000)) && (decide (0 ≤ tokens) && decide (tokens ≤ 5))) = q
          cases q with
          | false => exact Two.left (x := 2) (M.Conv_ite (fun _ => M.Conv_ret _) (fun t => by simp at t)) (Two.ite (fun _ => Two.ret _ sm0) (fun t => by simp at t))
          | true =>
            refine Two.left (x := 0) (M.Conv_ite (fun t => by simp at t) (fun _ => M.Conv_ret _)) ?_
            refine Two.iteL (fun t => by simp at t) (fun _ => Two.iteR (fun t => by simp at t) (fun _ => ?_))
            refine Two.bindC (spec_l11Own_ok s) (impl_cloneGraph_ok s) (Two.bindC hpc hpc (Two.bindC (updC _ hi'.1 hlt) (updC _ hi'.1 hlt) ?_))
            have hlt2 : i < (g.Places.set i.toNat (⟨p.From, p.To, delay, p.Tokens⟩ : TPlace)).length := by rw [List.length_set]; exact hlt
            obtain ⟨p2, hp2, hpc2⟩ := placeRow hi'.1 hlt2
            refine Two.bindC hpc2 hpc2 (Two.bindC (updC _ hi'.1 hlt2) (updC _ hi'.1 hlt2) (Two.ret _ ?_))
            have := s
            simpa [smG, smP] using this

def tab {α : Type} (n : Nat) (h : Nat → α) : List α := (List.range n).map h
theorem tab_len {α : Type} (n : Nat) (h : Nat → α) : (tab n h).length = n := by simp [tab]
def matF (m n : Nat) (f : Nat → Nat → Int) : List (List Int) := tab m fun i => tab n (f i)
theorem matF_len (m n : Nat) (f : Nat → Nat → Int) : (matF m n f).length = m := tab_len _ _
structure Shp (a : List (List Int)) (w : Nat) : Prop where
  rows : 1 ≤ a.length ∧ a.length ≤ 10
  cols : 1 ≤ w ∧ w ≤ 10
  row : ∀ r ∈ a, r.length = w
theorem Mat.shp {a : List (List Int)} {w : Nat} (hm : Mat a w) : Shp a w := ⟨hm.rows, hm.cols, fun r hr => (hm.row r hr).1⟩
theorem shp_of {m n : Nat} {f : Nat → Nat → Int} (h1 : 1 ≤ m ∧ m ≤ 10) (h2 : 1 ≤ n ∧ n ≤ 10) : Shp (matF m n f) n := by
  refine ⟨by rw [matF_len]; exact h1, h2, fun r hr => ?_⟩
  simp only [matF, tab, List.mem_map, List.mem_range] at hr
  obtain ⟨i, hi, rfl⟩ := hr
  simp
theorem matB_shp {a : List (List Int)} {w : Nat} (h : Shp a w) : matB a = a.all fun r => r.all valB := by
  have h1 := h.rows
  have h2 := h.cols
  have hw : widthN a = w := by
    unfold widthN
    cases a with
    | nil => simp at h1
    | cons r rs => exact h.row r (by simp)
  unfold matB
  rw [hw, decide_eq_true h1.1, decide_eq_true h1.2, decide_eq_true h2.1, decide_eq_true h2.2]
  simp only [Bool.true_and]
  rw [Bool.eq_iff_iff, List.all_eq_true, List.all_eq_true]
  refine ⟨fun H r hr => ?_, fun H r hr => ?_⟩
  · have := H r hr; simp only [Bool.and_eq_true] at this; exact this.2
  · rw [decide_eq_true (h.row r hr), Bool.true_and]; exact H r hr
theorem Shp.sm {a : List (List Int)} {w : Nat} (h : Shp a w) : smII a := ⟨by have := h.rows; omega, fun r hr => by have := h.row r hr; have := h.cols; omega⟩
def colL (b : List (List Int)) (i : Nat) : List Int := tab b.length fun j => entA b j i
theorem Conv_or {b v : Bool} {m : M Bool} (h : b = false → M.Conv m v) : M.Conv (M.ite b (M.ret true) m) (b || v) := by
  cases b with
  | true => exact M.Conv_ite (fun _ => M.Conv_ret _) (fun t => by simp at t)
  | false => exact M.Conv_ite (fun t => by simp at t) (fun _ => h rfl)
def Rel {α β : Type} (m : M α) (m' : M β) (Q : α → β → Prop) : Prop := ∃ r r', M.Conv m r ∧ M.Conv m' r' ∧ Q r r'
theorem Rel.of {α β : Type} {m : M α} {m' : M β} {Q : α → β → Prop} {r : α} {r' : β} (h : M.Conv m r) (h' : M.Conv m' r') (q : Q r r') : Rel m m' Q := ⟨r, r', h, h', q⟩
theorem Rel.bind {α β γ δ : Type} {m : M α} {m' : M β} {f : α → M γ} {f' : β → M δ} {P : α → β → Prop} {Q : γ → δ → Prop} (h : Rel m m' P) (g : ∀ x x', P x x' → Rel (f x) (f' x') Q) : Rel (M.bind m f) (M.bind m' f') Q := by
  obtain ⟨x, x', h1, h2, p⟩ := h
  obtain ⟨r, r', g1, g2, q⟩ := g x x' p
  exact ⟨r, r', M.Conv_bind h1 g1, M.Conv_bind h2 g2, q⟩
theorem Rel.left {α γ δ : Type} {m : M α} {f : α → M γ} {m' : M δ} {Q : γ → δ → Prop} {x : α} (h : M.Conv m x) (g : Rel (f x) m' Q) : Rel (M.bind m f) m' Q := by
  obtain ⟨r, r', g1, g2, q⟩ := g
  exact ⟨r, r', M.Conv_bind h g1, g2, q⟩
theorem Rel.right {α γ δ : Type} {m : M α} {f : α → M γ} {m' : M δ} {Q : δ → γ → Prop} {x : α} (h : M.Conv m x) (g : Rel m' (f x) Q) : Rel m' (M.bind m f) Q := by
  obtain ⟨r, r', g1, g2, q⟩ := g
  exact ⟨r, r', g1, M.Conv_bind h g2, q⟩
theorem Rel.two {α : Type} {m m' : M α} {P : α → Prop} (h : Rel m m' fun x y => x = y ∧ P x) : Two m m' P := by
  obtain ⟨r, r', h1, h2, rfl, p⟩ := h
  exact ⟨r, h1, h2, p⟩
theorem Rel.mono {α β : Type} {m : M α} {m' : M β} {P Q : α → β → Prop} (h : Rel m m' P) (g : ∀ x y, P x y → Q x y) : Rel m m' Q := by
  obtain ⟨r, r', h1, h2, p⟩ := h
  exact ⟨r, r', h1, h2, g _ _ p⟩
theorem Rel.iteL {α β : Type} {b : Bool} {x y : M α} {m' : M β} {Q : α → β → Prop} (h1 : b = true → Rel x m' Q) (h2 : b = false → Rel y m' Q) : Rel (M.ite b x y) m' Q := by
  cases b
  · obtain ⟨r, r', g1, g2, q⟩ := h2 rfl
    exact ⟨r, r', M.Conv_ite (fun t => by simp at t) (fun _ => g1), g2, q⟩
  · obtain ⟨r, r', g1, g2, q⟩ := h1 rfl
    exact ⟨r, r', M.Conv_ite (fun _ => g1) (fun t => by simp at t), g2, q⟩
theorem Rel.iteR {α β : Type} {b : Bool} {x y : M β} {m' : M α} {Q : α → β → Prop} (h1 : b = true → Rel m' x Q) (h2 : b = false → Rel m' y Q) : Rel m' (M.ite b x y) Q := by
  cases b
  · obtain ⟨r, r', g1, g2, q⟩ := h2 rfl
    exact ⟨r, r', g1, M.Conv_ite (fun t => by simp at t) (fun _ => g2), q⟩
  · obtain ⟨r, r', g1, g2, q⟩ := h1 rfl
    exact ⟨r, r', g1, M.Conv_ite (fun _ => g2) (fun t => by simp at t), q⟩
theorem Rel.ite {α β : Type} {b b' : Bool} {x y : M α} {x' y' : M β} {Q : α → β → Prop} (e : b = b') (h1 : b = true → Rel x x' Q) (h2 : b = false → Rel y y' Q) : Rel (M.ite b x y) (M.ite b' x' y') Q := by
  subst e
  exact Rel.iteL (fun t => Rel.iteR (fun _ => h1 t) (fun t' => by rw [t] at t'; cases t')) (fun t => Rel.iteR (fun t' => by rw [t] at t'; cases t') (fun _ => h2 t))
theorem Rel.ret {α β : Type} {x : α} {y : β} {Q : α → β → Prop} (q : Q x y) : Rel (M.ret x) (M.ret y) Q := ⟨x, y, M.Conv_ret _, M.Conv_ret _, q⟩
/-- one round of two loops: both go on, or both stop -/
def Round {σ σ' ρ ρ' : Type} (R : σ → σ' → Prop) (Q : ρ → ρ' → Prop) (y : σ ⊕ ρ) (y' : σ' ⊕ ρ') : Prop := (∃ t t', y = .inl t ∧ y' = .inl t' ∧ R t t') ∨ (∃ r r', y = .inr r ∧ y' = .inr r' ∧ Q r r')
theorem Round.on {σ σ' ρ ρ' : Type} {R : σ → σ' → Prop} {Q : ρ → ρ' → Prop} {t : σ} {t' : σ'} (h : R t t') : Round R Q (.inl t) (.inl t') := .inl ⟨t, t', rfl, rfl, h⟩
theorem Rel.for {σ σ' ρ ρ' : Type} {n : Nat} {f : Int → σ → M (σ ⊕ ρ)} {f' : Int → σ' → M (σ' ⊕ ρ')} {fin : σ → ρ} {fin' : σ' → ρ'} {s : σ} {s' : σ'} {Q : ρ → ρ' → Prop} (R : Nat → σ → σ' → Prop) (hn : n ≤ 9223372036854775807) (h0 : R 0 s s')
    (step : ∀ (i : Nat) t t', i < n → R i t t' → Rel (f i t) (f' i t') (Round (R (i + 1)) Q)) (stop : ∀ t t', R n t t' → Q (fin t) (fin' t')) : Rel (M.forI 0 (n : Int) fin f s) (M.forI 0 (n : Int) fin' f' s') Q := by
  have H : ∀ (d i : Nat) t t', i + d = n → R i t t' → ∃ r r', (∃ N, ∀ m, N ≤ m → M.forN (n : Int) fin f m d (i : Int) t = some r) ∧ (∃ N, ∀ m, N ≤ m → M.forN (n : Int) fin' f' m d (i : Int) t' = some r') ∧ Q r r' := by
    intro d
    induction d with
    | zero =>
      intro i t t' e hR
      obtain rfl : i = n := by omega
      exact ⟨fin t, fin' t', ⟨0, fun m _ => by simp [M.forN]⟩, ⟨0, fun m _ => by simp [M.forN]⟩, stop t t' hR⟩
    | succ d ih =>
      intro i t t' e hR
      have hlt : (i : Int) < n := by omega
      obtain ⟨y, y', ⟨N, hy⟩, ⟨N', hy'⟩, hc⟩ := step i t t' (by omega) hR
      rcases hc with ⟨u, u', rfl, rfl, hR⟩ | ⟨r, r', rfl, rfl, hq⟩
      · obtain ⟨r, r', ⟨K, hr⟩, ⟨K', hr'⟩, hq⟩ := ih (i + 1) u u' (by omega) hR
        rw [Int.natCast_add] at hr hr'
        refine ⟨r, r', ⟨max N K, fun m hm => ?_⟩, ⟨max N' K', fun m hm => ?_⟩, hq⟩
        · simp [M.forN, hlt, hy m (by omega)]; exact hr m (by omega)
        · simp [M.forN, hlt, hy' m (by omega)]; exact hr' m (by omega)
      · exact ⟨r, r', ⟨N, fun m hm => by simp [M.forN, hlt, hy m hm]⟩, ⟨N', fun m hm => by simp [M.forN, hlt, hy' m hm]⟩, hq⟩
  obtain ⟨r, r', ⟨N, h1⟩, ⟨N', h2⟩, q⟩ := H n 0 s s' (by omega) h0
  refine ⟨r, r', ⟨N, fun m hm => ?_⟩, ⟨N', fun m hm => ?_⟩, q⟩
  · have := h1 m hm; have hn' : (n : Int) ≤ 9223372036854775807 := by omega
    simp [M.forI, hn']; exact this
  · have := h2 m hm; have hn' : (n : Int) ≤ 9223372036854775807 := by omega
    simp [M.forI, hn']; exact this
/-- a loop with a round count on the left, any loop on the right -/
theorem Rel.loop {σ σ' ρ ρ' : Type} {f : σ → M (σ ⊕ ρ)} {f' : σ' → M (σ' ⊕ ρ')} {s : σ} {s' : σ'} {Q : ρ → ρ' → Prop} (R : σ → σ' → Prop) (μ : σ → Nat) (h0 : R s s')
    (step : ∀ t t', R t t' → Rel (f t) (f' t') (Round (fun u u' => R u u' ∧ μ u < μ t) Q)) : Rel (M.loop f s) (M.loop f' s') Q := by
  have H : ∀ (d : Nat) t t', μ t < d → R t t' → ∃ r r', ConvL f t r ∧ ConvL f' t' r' ∧ Q r r' := by
    intro d
    induction d with
    | zero => intro t t' h; omega
    | succ d ih =>
      intro t t' h hR
      obtain ⟨y, y', hy, hy', hc⟩ := step t t' hR
      rcases hc with ⟨u, u', rfl, rfl, hR, hlt⟩ | ⟨r, r', rfl, rfl, hq⟩
      · obtain ⟨r, r', k1, k2, q⟩ := ih u u' (by omega) hR
        exact ⟨r, r', k1.step hy, k2.step hy', q⟩
      · exact ⟨r, r', ConvL.stop hy, ConvL.stop hy', hq⟩
  obtain ⟨r, r', h1, h2, q⟩ := H (μ s + 1) s s' (by omega) h0
  exact ⟨r, r', h1.conv, h2.conv, q⟩

theorem Conv_check {ρ : Type} {n lo : Nat} {f : Int → Unit → M (Unit ⊕ (Unit ⊕ ρ))} (P : Nat → Prop) (v : ρ) (hn : n ≤ 9223372036854775807)
    (h : ∀ i : Nat, lo ≤ i → i < n → (P i ∧ M.Conv (f i ()) (.inl ())) ∨ (¬ P i ∧ M.Conv (f i ()) (.inr (.inr v)))) :
    ((∀ i, lo ≤ i → i < n → P i) ∧ M.Conv (M.forI (lo : Int) (n : Int) (fun s => .inl s) f ()) (.inl ())) ∨ ((∃ i, lo ≤ i ∧ i < n ∧ ¬ P i) ∧ M.Conv (M.forI (lo : Int) (n : Int) (fun s => .inl s) f ()) (.inr v)) := by
  have H : M.TC (M.forI (lo : Int) (n : Int) (fun s => .inl s) f ()) (fun r => ((∀ i, lo ≤ i → i < n → P i) ∧ r = .inl ()) ∨ ((∃ i, lo ≤ i ∧ i < n ∧ ¬ P i) ∧ r = .inr v)) := by
    refine M.TC_for (fun i _ => ∀ k : Nat, lo ≤ k → (k : Int) < i → P k) () (by omega) (by omega) (fun k h1 h2 => by omega) (fun i s h1 h2 hI => ?_) (fun i s hi hI => ?_)
    · obtain ⟨k, rfl⟩ : ∃ k : Nat, i = (k : Int) := ⟨i.toNat, by omega⟩
      rcases h k (by omega) (by omega) with ⟨hp, hc⟩ | ⟨hp, hc⟩
      · refine hc.tc (.inl ⟨(), rfl, fun q h3 h4 => ?_⟩)
        by_cases e : q = k
        · subst e; exact hp
        · exact hI q h3 (by omega)
      · exact hc.tc (.inr ⟨.inr v, rfl, .inr ⟨⟨k, by omega, by omega, hp⟩, rfl⟩⟩)
    · rcases hi with rfl | ⟨rfl, hle⟩
      · exact .inl ⟨fun q h1 h2 => hI q h1 (by omega), rfl⟩
      · exact .inl ⟨fun q h1 h2 => by omega, rfl⟩
  obtain ⟨r, hr, ⟨h1, rfl⟩ | ⟨h1, rfl⟩⟩ := H
  · exact .inl ⟨h1, hr⟩
  · exact .inr ⟨h1, hr⟩
def nd (l : List Int) (i : Nat) : Int := (l[i]?).getD 0
theorem nd_read {l : List Int} {i : Nat} (h : i < l.length) : M.Conv (M.idx l (i : Int)) (nd l i) := by
  have : l[i]? = some (l[i]'h) := List.getElem?_eq_getElem _
  refine M.Conv_idx ?_
  unfold nd; rw [this]; rfl
def OkNodes (n : Nat) (l : List Int) : Prop := ∀ i, i < l.length → (0 ≤ nd l i ∧ nd l i ≤ (n : Int) - 1) ∧ (0 < i → nd l (i - 1) < nd l i)
theorem OkNodes.len {n : Nat} {l : List Int} (h : OkNodes n l) : l.length ≤ n := by
  have key : ∀ i, i < l.length → (i : Int) ≤ nd l i := by
    intro i
    induction i with
    | zero => intro hi; have := (h 0 hi).1; omega
    | succ i ih => intro hi; have := (h (i + 1) hi).2 (by omega); have := ih (by omega); simp only [Nat.add_sub_cancel] at *; omega
  by_cases e : l.length = 0
  · omega
  · have := key (l.length - 1) (by omega)
    have := (h (l.length - 1) (by omega)).1
    omega
structure ByC (code : List Int) : Prop where
  len : code.length ≤ 4096
  byte : ∀ x ∈ code, 0 ≤ x ∧ x ≤ 255
structure Src (code : List Int) (s : TL01source) : Prop where
  code_ : s.code = code
  lo : 0 ≤ s.at_
  hi : s.at_ ≤ code.length
  seed : 0 ≤ s.seed ∧ s.seed < 2147483647
theorem Src.mk' {code : List Int} {s : TL01source} {c : List Int} (h : Src code s) (hc : c = code) : Src code ⟨c, s.at_, s.seed⟩ := ⟨hc, h.lo, h.hi, h.seed⟩
theorem tmod_in {x n : Int} (hx : 0 ≤ x) (hn : 0 < n) : 0 ≤ x.tmod n ∧ x.tmod n < n := ⟨Int.tmod_nonneg n hx, Int.tmod_lt_of_pos x hn⟩
theorem tdiv_in {x : Int} (hx : 0 ≤ x) (h : x < 2147483647) : 0 ≤ x.tdiv 31 ∧ x.tdiv 31 < 2147483647 := by
  rw [Int.tdiv_eq_ediv_of_nonneg hx]; omega
theorem from_ok {code : List Int} (hc : ByC code) : M.TC (spec_l01From code) (Src code) := by
  have hl := hc.len
  unfold spec_l01From
  refine M.TC_bind (Mid := fun x => 0 ≤ x.1 ∧ x.1 < 2147483647) (M.TC_loop (fun (s : Int × Int) => (0 ≤ s.1 ∧ s.1 < 2147483647) ∧ 0 ≤ s.2 ∧ s.2 ≤ 4096) (fun s => (4096 - s.2).toNat) (61403, 0) (by simp) fun s hs => ?_) fun x hx => M.TC_ret ⟨rfl, by simp, by simp, hx⟩
  refine M.TC_ite (fun t => ?_) (fun _ => M.TC_ret (.inr ⟨_, rfl, hs.1⟩))
  simp only [Bool.and_eq_true, decide_eq_true_eq] at t
  refine M.TC_bind (Mid := fun x => 0 ≤ x ∧ x ≤ 255) (M.TC_idx hs.2.1 t.1 fun x hx => hc.byte x (List.mem_of_getElem? hx)) fun x hx => M.TC_ret (.inl ⟨_, rfl, ?_, ?_⟩)
  · have e1 : w64 (s.1 * 67) = s.1 * 67 := w64_eq _ (by omega)
    have e2 : w64 x = x := w64_eq _ (by omega)
    have e3 : w64 (s.1 * 67 + x) = s.1 * 67 + x := w64_eq _ (by omega)
    have e4 : w64 (s.2 + 1) = s.2 + 1 := w64_eq _ (by omega)
    simp only [e1, e2, e3, e4]
    exact ⟨tmod_in (by omega) (by omega), by omega, by omega⟩
  · simp only
    rw [w64_eq _ (by omega)]; omega
theorem next_ok {code : List Int} (hc : ByC code) {s : TL01source} (hs : Src code s) (n : Int) (hn : n ≤ 1000000) : M.TC (spec_l01Next s n) (fun r => Src code r.2 ∧ 0 ≤ r.1 ∧ (r.1 < n ∨ (n ≤ 1 ∧ r.1 = 0))) := by
  have hl := hc.len
  obtain ⟨h1, h2, h3, h4⟩ := hs
  unfold spec_l01Next
  refine M.TC_ite (fun t => M.TC_ret ⟨⟨h1, h2, h3, h4⟩, by simp, .inr ⟨by simpa using t, rfl⟩⟩) (fun t => ?_)
  have t : 1 < n := by simpa using t
  have e1 : w64 (s.seed * 48271) = s.seed * 48271 := w64_eq _ (by omega)
  have e2 : w64 (s.seed * 48271 + 59) = s.seed * 48271 + 59 := w64_eq _ (by omega)
  have hsd := tmod_in (x := s.seed * 48271 + 59) (n := 2147483647) (by omega) (by omega)
  simp only [e1, e2]
  generalize (s.seed * 48271 + 59).tmod 2147483647 = sd at hsd ⊢
  have hq := tdiv_in hsd.1 hsd.2
  generalize sd.tdiv 31 = q at hq ⊢
  have e3 : w64 q = q := w64_eq _ (by omega)
  have e4 : w64 (s.at_ + 1) = s.at_ + 1 := w64_eq _ (by omega)
  simp only [e3, e4, h1]
  refine M.TC_bind (Mid := fun (x : Int × Int) => 0 ≤ x.1 ∧ 0 ≤ x.2 ∧ x.2 ≤ code.length) ?_ (fun x hx => M.TC_bind (M.TC_guard (Post := fun _ => True) (by simp; omega) trivial) fun _ _ => M.TC_ret ⟨⟨rfl, hx.2.1, hx.2.2, hsd⟩, (tmod_in hx.1 (by omega)).1, .inl (tmod_in hx.1 (by omega)).2⟩)
  refine M.TC_ite (fun t => ?_) (fun _ => M.TC_ret ⟨hq.1, h2, h3⟩)
  have t : s.at_ < code.length := by simpa using t
  refine M.TC_bind (Mid := fun x => 0 ≤ x ∧ x ≤ 255) (M.TC_idx h2 t fun x hx => hc.byte x (List.mem_of_getElem? hx)) fun x hx => ?_
  refine M.TC_ite (fun _ => ?_) (fun _ => M.TC_ret ⟨?_, by simp only; omega, by simp only; omega⟩)
  · have e5 : w64 (s.at_ + 1 - 1) = s.at_ := by rw [w64_eq _ (by omega)]; omega
    rw [e5]
    refine M.TC_bind (Mid := fun x => 0 ≤ x ∧ x ≤ 255) (M.TC_idx h2 t fun x hx => hc.byte x (List.mem_of_getElem? hx)) fun x hx => M.TC_ret ⟨?_, by simp only; omega, by simp only; omega⟩
    simp only
    rw [w64_eq _ (by omega)]; exact hx.1
  · simp only
    rw [w64_eq x (by omega), w64_eq _ (by omega)]; omega
theorem pick_ok {code : List Int} (hc : ByC code) {s : TL01source} (hs : Src code s) (l : List Int) (h1 : 1 ≤ l.length) (h2 : l.length ≤ 1000) (P : Int → Prop) (hP : ∀ x ∈ l, P x) : M.TC (spec_l01Pick s l) (fun r => Src code r.2.1 ∧ P r.1) := by
  unfold spec_l01Pick
  refine M.TC_bind (next_ok hc hs l.length (by omega)) fun x hx => M.TC_bind (Mid := P) (M.TC_idx hx.2.1 (by omega) fun y hy => hP y (List.mem_of_getElem? hy)) fun y hy => M.TC_ret ⟨hx.1.mk' hs.code_, hy⟩
/-- what a drawn matrix is at least: not large, of numbers -/
structure MatS (a : List (List Int)) : Prop where
  rows : a.length ≤ 11
  row : ∀ r ∈ a, r.length ≤ 10 ∧ ∀ x ∈ r, inI64 x
theorem MatS.sm {a : List (List Int)} (h : MatS a) : smII a := ⟨by have := h.rows; omega, fun r hr => by have := (h.row r hr).1; omega⟩
theorem MatS.of {m n : Nat} {f : Nat → Nat → Int} (hm : m ≤ 10) (hn : n ≤ 10) (hf : ∀ i j, inI64 (f i j)) : MatS (matF m n f) := by
  refine ⟨by rw [matF_len]; omega, fun r hr => ?_⟩
  simp only [matF, tab, List.mem_map, List.mem_range] at hr
  obtain ⟨i, hi, rfl⟩ := hr
  refine ⟨by simp; omega, fun x hx => ?_⟩
  simp only [List.mem_map, List.mem_range] at hx
  obtain ⟨j, hj, rfl⟩ := hx
  exact hf i j
structure VecS (x : List Int) : Prop where
  len : x.length ≤ 20
  mem : ∀ v ∈ x, inI64 v
theorem VecS.sm {x : List Int} (h : VecS x) : smI x := by have := h.len; unfold smI; omega
theorem VecS.snoc {x : List Int} {v : Int} (h : VecS x) (hl : x.length ≤ 19) (hv : inI64 v) : VecS (x ++ [v]) := ⟨by simp; omega, fun y hy => by
  rcases List.mem_append.1 hy with hy | hy
  · exact h.mem y hy
  · simp at hy; subst hy; exact hv⟩
theorem VecS.set {x : List Int} {v : Int} (i : Nat) (h : VecS x) (hv : inI64 v) : VecS (x.set i v) := ⟨by rw [List.length_set]; exact h.len, fun y hy => by
  rcases List.mem_or_eq_of_mem_set hy with hy | hy
  · exact h.mem y hy
  · subst hy; exact hv⟩
theorem likeInts_refl {a : List Int} (h : a.length ≤ 1099511627776) : M.Conv (laws_likeInts a a) true := by
  unfold laws_likeInts
  refine M.Conv_ite (fun t => by simp at t) (fun _ => ?_)
  rcases Conv_check (ρ := Bool) (n := a.length) (lo := 0) (f := (fun i1 => (fun (_ : Unit) => M.bind (M.idx a i1) (fun x2 => M.bind (M.idx a i1) (fun x3 => M.ite (x2 != x3) (M.ret (.inr (.inr false))) (M.ret (.inl ()))))))) (fun _ => True) false (by omega) (fun i _ hi => .inl ⟨trivial, M.Conv_bind (nd_read hi) (M.Conv_bind (nd_read hi) (M.Conv_ite (fun t => by simp at t) (fun _ => M.Conv_ret _)))⟩) with ⟨_, h2⟩ | ⟨⟨i, _, _, h3⟩, _⟩
  · exact M.Conv_bind h2 (M.Conv_ret _)
  · exact absurd trivial h3
theorem big_ok (code : List Int) : M.Conv (laws_big code) (decide (4096 < (code.length : Int))) := M.Conv_ret _
theorem ByC.of {code : List Int} (h : fitL inU8 code) (hb : decide (4096 < (code.length : Int)) = false) : ByC code := ⟨by have := of_decide_eq_false hb; omega, fun x hx => h.2 x hx⟩
theorem cmp_list {l : List Int} {c : Int} (h : l.length ≤ 1099511627776) (q : Bool) (hq : q = false) : M.Conv (M.ite (q || (c != c)) (M.ret true) (M.bind (laws_likeInts l l) (fun x12 => M.ret (!x12)))) false := by
  subst hq
  exact M.Conv_ite (fun t => by simp at t) (fun _ => M.Conv_bind (likeInts_refl h) (M.Conv_ret _))
theorem cmp_list0 {l : List Int} {c : Int} (h : l.length ≤ 1099511627776) : M.Conv (M.ite (c != c) (M.ret true) (M.bind (laws_likeInts l l) (fun x12 => M.ret (!x12)))) false :=
  M.Conv_ite (fun t => by simp at t) (fun _ => M.Conv_bind (likeInts_refl h) (M.Conv_ret _))
def co (c : List Int) (i : Nat) : Int := (c[i]?).getD (-1000000000000000)
theorem co_get {c : List Int} {i : Nat} (h : i < c.length) : c[i]? = some (co c i) := by
  unfold co; rw [List.getElem?_eq_getElem h]; rfl
theorem co_out {c : List Int} {i : Nat} (h : c.length ≤ i) : co c i = -1000000000000000 := by
  unfold co; rw [List.getElem?_eq_none h]; rfl
theorem co_val {c : List Int} (hv : c.all valB = true) (i : Nat) : co c i = -1000000000000000 ∨ -1000000 ≤ co c i ∧ co c i ≤ 1000000 := by
  by_cases hi : i < c.length
  · rw [List.all_eq_true] at hv
    exact val_cases (hv _ (List.mem_of_getElem? (co_get hi)))
  · exact .inl (co_out (by omega))
theorem times_co {a p : Int} (h : a ≠ -1000000000000000) (ha : -1000000 ≤ a ∧ a ≤ 1000000) (hp : -1000000 ≤ p ∧ p ≤ 1000000) : timesI a p = a + p := by
  simp only [timesI]
  rw [show (a == (-1000000000000000)) = false by simpa using h, show (p == (-1000000000000000)) = false by simp; omega]
  exact w64_eq _ (by omega)
theorem times_bot (p : Int) : timesI (-1000000000000000) p = -1000000000000000 := by simp [timesI]
structure IsEv (c : List Int) (x v : Int) : Prop where
  up : ∀ i : Nat, co c i ≠ -1000000000000000 → co c i + i * x ≤ v
  on : ∃ i : Nat, co c i ≠ -1000000000000000 ∧ v = co c i + i * x
theorem IsEv.unique {c : List Int} {x v w : Int} (h : IsEv c x v) (g : IsEv c x w) : v = w := by
  obtain ⟨i, h1, h2⟩ := h.on
  obtain ⟨k, g1, g2⟩ := g.on
  have := h.up k g1
  have := g.up i h1
  omega
structure PartP (c d : List Int) (n i k : Nat) (s : List Int) : Prop where
  len : s.length = n
  up : ∀ p q : Nat, (p < i ∨ p = i ∧ q < k) → co c p ≠ -1000000000000000 → co d q ≠ -1000000000000000 → co c p + co d q ≤ co s (p + q)
  on : ∀ m : Nat, co s m = -1000000000000000 ∨ ∃ p q : Nat, p + q = m ∧ co c p ≠ -1000000000000000 ∧ co d q ≠ -1000000000000000 ∧ co s m = co c p + co d q
theorem co_set {s : List Int} {i m : Nat} {v : Int} (hi : i < s.length) : co (s.set i v) m = if m = i then v else co s m := by
  unfold co
  by_cases e : m = i
  · subst e; rw [if_pos rfl, List.getElem?_set_self hi]; rfl
  · rw [if_neg e, List.getElem?_set_ne (by omega)]
theorem PartP.step {c d s : List Int} {n i k : Nat} (hc : c.all valB = true) (hd : d.all valB = true) (h : PartP c d n i k s) (hn : i + k < n) : PartP c d n i (k + 1) (s.set (i + k) (mx (co s (i + k)) (timesI (co c i) (co d k)))) := by
  have hlt : i + k < s.length := by rw [h.len]; exact hn
  have vc := co_val hc i
  have vd := co_val hd k
  have vs : co s (i + k) = -1000000000000000 ∨ -2000000 ≤ co s (i + k) := by
    rcases h.on (i + k) with e | ⟨p, q, _, h1, h2, e⟩
    · exact .inl e
    · have := co_val hc p
      have := co_val hd q
      omega
  -- the new coefficient
  have hz : (mx (co s (i + k)) (timesI (co c i) (co d k)) = co s (i + k) ∧ (co c i = -1000000000000000 ∨ co d k = -1000000000000000 ∨ co c i + co d k ≤ co s (i + k))) ∨ (mx (co s (i + k)) (timesI (co c i) (co d k)) = co c i + co d k ∧ co c i ≠ -1000000000000000 ∧ co d k ≠ -1000000000000000 ∧ co s (i + k) ≤ co c i + co d k) := by
    rw [mx_eq]
    by_cases e1 : co c i = -1000000000000000
    · rw [e1, times_bot]; left; omega
    · by_cases e2 : co d k = -1000000000000000
      · rw [e2, show timesI (co c i) (-1000000000000000) = -1000000000000000 by simp [timesI]]; left; omega
      · rw [times_co e1 (by omega) (by omega)]
        by_cases e3 : co c i + co d k ≤ co s (i + k)
        · left; omega
        · right; omega
  refine ⟨by rw [List.length_set]; exact h.len, fun p q hpq h1 h2 => ?_, fun m => ?_⟩
  · rw [co_set hlt]
    by_cases e : p + q = i + k
    · rw [if_pos e]
      by_cases e2 : p = i ∧ q = k
      · obtain ⟨rfl, rfl⟩ := e2; omega
      · have := h.up p q (by omega) h1 h2
        rw [e] at this
        omega
    · rw [if_neg e]
      exact h.up p q (by omega) h1 h2
  · rw [co_set hlt]
    by_cases e : m = i + k
    · rw [if_pos e]
      rcases hz with ⟨hz, _⟩ | ⟨hz, h1, h2, _⟩
      · rw [hz]
        have := h.on m
        rw [e] at this ⊢
        exact this
      · exact .inr ⟨i, k, e.symm, h1, h2, hz⟩
    · rw [if_neg e]; exact h.on m
theorem shp_width {a : List (List Int)} {w : Nat} (h : Shp a w) : widthN a = w := by
  have h1 := h.rows
  unfold widthN
  cases a with
  | nil => simp at h1
  | cons r rs => exact h.row r (by simp)
theorem mat_matB {a : List (List Int)} {w : Nat} (h : Mat a w) : matB a = true := by
  rw [matB_shp h.shp, List.all_eq_true]
  intro r hr
  rw [List.all_eq_true]
  exact (h.row r hr).2
structure DotP (u v : Nat → Int) (n : Nat) (s : Int) : Prop where
  up : ∀ j, j < n → u j ≠ -1000000000000000 → v j ≠ -1000000000000000 → u j + v j ≤ s
  on : s = -1000000000000000 ∨ ∃ j, j < n ∧ u j ≠ -1000000000000000 ∧ v j ≠ -1000000000000000 ∧ s = u j + v j
def Bd (B : Int) (x : Int) : Prop := x = -1000000000000000 ∨ (-B ≤ x ∧ x ≤ B)
theorem DotP.unique {u v : Nat → Int} {n : Nat} {s t : Int} (hu : ∀ j, j < n → Bd 2000000 (u j)) (hv : ∀ j, j < n → Bd 2000000 (v j)) (h : DotP u v n s) (g : DotP u v n t) : s = t := by
  have key : ∀ {s t : Int}, DotP u v n s → DotP u v n t → t ≤ s := fun {s t} h g => by
    rcases g.on with e | ⟨j, hj, h1, h2, e⟩
    · rcases h.on with e' | ⟨j, hj, h1, h2, e'⟩
      · omega
      · have b1 := hu j hj
        have b2 := hv j hj
        unfold Bd at b1 b2
        omega
    · have := h.up j hj h1 h2
      omega
  have := key h g
  have := key g h
  omega
def rowN (a : List (List Int)) (i : Nat) : List Int := (a[i]?).getD []
def mulM (a b : List (List Int)) : List (List Int) := matF a.length (widthN b) fun i k => dotL (colL b k) (rowN a i)
theorem mulM_shp {a b : List (List Int)} {n w : Nat} (ha : Shp a n) (hb : Shp b w) : Shp (mulM a b) w := by
  unfold mulM
  rw [shp_width hb]
  exact shp_of ha.rows hb.cols
theorem DotP.congr {u v u' v' : Nat → Int} {n : Nat} {s : Int} (h : DotP u v n s) (hu : ∀ j, j < n → u j = u' j) (hv : ∀ j, j < n → v j = v' j) : DotP u' v' n s := by
  refine ⟨fun j hj h1 h2 => ?_, ?_⟩
  · rw [← hu j hj] at h1 ⊢
    rw [← hv j hj] at h2 ⊢
    exact h.up j hj h1 h2
  · rcases h.on with e | ⟨j, hj, h1, h2, e⟩
    · exact .inl e
    · rw [hu j hj] at h1 e
      rw [hv j hj] at h2 e
      exact .inr ⟨j, hj, h1, h2, e⟩
def pw (a f : List (List Int)) : Nat → List (List Int)
  | 0 => f
  | k + 1 => mulM a (pw a f k)
structure Ser (a f : List (List Int)) (w : Nat) : Prop where
  mat : Mat a a.length
  fst : Mat f w
  len : f.length = a.length
theorem Ser.shp {a f : List (List Int)} {w : Nat} (h : Ser a f w) : ∀ k, Shp (pw a f k) w ∧ (pw a f k).length = a.length
  | 0 => ⟨h.fst.shp, h.len⟩
  | k + 1 => ⟨mulM_shp h.mat.shp (h.shp k).1, matF_len _ _ _⟩
def okTo (a f : List (List Int)) (k : Nat) : Prop := ∀ i, i ≤ k → matB (pw a f i) = true
theorem Ser.zero {a f : List (List Int)} {w : Nat} (h : Ser a f w) : okTo a f 0 := fun i hi => by
  obtain rfl : i = 0 := by omega
  exact mat_matB h.fst
theorem okTo.mono {a f : List (List Int)} {k m : Nat} (h : okTo a f k) (hm : m ≤ k) : okTo a f m := fun i hi => h i (by omega)
structure Gr (g : TGraph) (n : Nat) : Prop where
  ev : g.Events = (n : Int)
  lo : 1 ≤ n
  hi : n ≤ 10
  len : g.Places.length ≤ 30
  pl : ∀ p ∈ g.Places, (0 ≤ p.From ∧ p.From < n) ∧ (0 ≤ p.To ∧ p.To < n) ∧ 0 ≤ p.Tokens ∧ p.Tokens ≤ 5
/-- a way from s of at most k places -/
inductive Wk (ps : List TPlace) (s : Int) : Nat → Int → Int → Prop
  | nil (k : Nat) : Wk ps s k s 0
  | step (k : Nat) (p : TPlace) (w : Int) : p ∈ ps → Wk ps s k p.From w → Wk ps s (k + 1) p.To (w + p.Tokens)
theorem Wk.mono {ps : List TPlace} {s : Int} {k : Nat} {v w : Int} (h : Wk ps s k v w) : ∀ {m : Nat}, k ≤ m → Wk ps s m v w := by
  induction h with
  | nil k => exact fun _ => .nil _
  | step k p w hp _ ih =>
    intro m hm
    obtain ⟨m', rfl⟩ : ∃ m', m = m' + 1 := ⟨m - 1, by omega⟩
    exact .step m' p w hp (ih (by omega))
def muL : List Int → Nat
  | [] => 0
  | x :: xs => (if x < 0 then 1000 else x.toNat) + muL xs
def cntL : List Int → Nat
  | [] => 0
  | x :: xs => (if x < 0 then 0 else 1) + cntL xs
theorem cnt_le : ∀ d : List Int, cntL d ≤ d.length
  | [] => Nat.le_refl _
  | x :: xs => by
    have := cnt_le xs
    simp only [cntL, List.length_cons]
    split <;> omega
theorem nd_cons (x : Int) (xs : List Int) (i : Nat) : nd (x :: xs) (i + 1) = nd xs i := by simp [nd]
theorem mu_set : ∀ {d : List Int} {i : Nat} {x : Int}, i < d.length → 0 ≤ x → x ≤ 900 → (nd d i < 0 ∨ x < nd d i) → muL (d.set i x) < muL d ∧ cntL (d.set i x) = cntL d + (if nd d i < 0 then 1 else 0)
  | y :: ys, 0, x, _, h0, h1, h => by
    have e : nd (y :: ys) 0 = y := by simp [nd]
    rw [e] at h ⊢
    simp only [List.set_cons_zero, muL, cntL]
    rw [if_neg (show ¬ x < 0 by omega), if_neg (show ¬ x < 0 by omega)]
    by_cases hy : y < 0
    · simp only [if_pos hy]; omega
    · simp only [if_neg hy]; omega
  | y :: ys, i + 1, x, hi, h0, h1, h => by
    rw [nd_cons] at h ⊢
    have := mu_set (d := ys) (i := i) (by simpa using hi) h0 h1 h
    simp only [List.set_cons_succ, muL, cntL]
    omega
theorem nd_set {d : List Int} {i v : Nat} {x : Int} (hi : i < d.length) : nd (d.set i x) v = if v = i then x else nd d v := by
  unfold nd
  by_cases e : v = i
  · subst e; rw [if_pos rfl, List.getElem?_set_self hi]; rfl
  · rw [if_neg e, List.getElem?_set_ne (by omega)]
structure DInv (ps : List TPlace) (s : Int) (n : Nat) (d : List Int) : Prop where
  len : d.length = n
  src : nd d s.toNat = 0
  way : ∀ v : Int, 0 ≤ v → v < n → nd d v.toNat = -1 ∨ (0 ≤ nd d v.toNat ∧ ∃ k, Wk ps s k v (nd d v.toNat))
  bd : ∀ v : Nat, v < n → nd d v ≤ 5 * ((cntL d : Int) - 1)
  one : 1 ≤ cntL d
theorem DInv.upd {g : TGraph} {s : Int} {n : Nat} {d : List Int} (hg : Gr g n) (hs : 0 ≤ s ∧ s < n) (h : DInv g.Places s n d) {p : TPlace} (hp : p ∈ g.Places) (hf : 0 ≤ nd d p.From.toNat) (ht : nd d p.To.toNat < 0 ∨ nd d p.From.toNat + p.Tokens < nd d p.To.toNat) :
    DInv g.Places s n (d.set p.To.toNat (nd d p.From.toNat + p.Tokens)) ∧ muL (d.set p.To.toNat (nd d p.From.toNat + p.Tokens)) < muL d := by
  obtain ⟨f1, t1, k0, k5⟩ := hg.pl p hp
  have hlt : p.To.toNat < d.length := by rw [h.len]; omega
  have hb := h.bd p.From.toNat (by omega)
  have hc := cnt_le d
  have hn := hg.hi
  have hl := h.len
  obtain ⟨m1, m2⟩ := mu_set (x := nd d p.From.toNat + p.Tokens) hlt (by omega) (by omega) ht
  refine ⟨⟨by rw [List.length_set]; exact h.len, ?_, fun v v0 v1 => ?_, fun v hv => ?_, by rw [m2]; have := h.one; omega⟩, m1⟩
  · rw [nd_set hlt]
    by_cases e : s.toNat = p.To.toNat
    · have := h.src
      rw [e] at this
      omega
    · rw [if_neg e]; exact h.src
  · rw [nd_set hlt]
    by_cases e : v.toNat = p.To.toNat
    · rw [if_pos e]
      right
      refine ⟨by omega, ?_⟩
      rcases h.way p.From f1.1 f1.2 with h1 | ⟨_, k, h1⟩
      · omega
      · obtain rfl : v = p.To := by omega
        exact ⟨k + 1, .step k p _ hp h1⟩
    · rw [if_neg e]; exact h.way v v0 v1
  · rw [nd_set hlt, m2]
    have := h.bd v hv
    by_cases e : v = p.To.toNat
    · rw [if_pos e]
      by_cases e2 : nd d p.To.toNat < 0
      · rw [if_pos e2]; omega
      · rw [if_neg e2]
        have := h.bd p.To.toNat (by omega)
        omega
    · rw [if_neg e]
      split <;> omega
theorem nodup_lt : ∀ (n : Nat) (l : List Nat), l.Nodup → (∀ v ∈ l, v < n) → l.length ≤ n
  | 0, [], _, _ => Nat.le_refl _
  | 0, v :: _, _, h => absurd (h v List.mem_cons_self) (by omega)
  | n + 1, l, hd, h => by
    by_cases hm : n ∈ l
    · have := nodup_lt n (l.erase n) (hd.erase n) (fun v hv => by
        have h1 := (hd.mem_erase_iff).1 hv
        have := h v h1.2
        have := h1.1
        omega)
      rw [List.length_erase_of_mem hm] at this
      omega
    · have := nodup_lt n l hd (fun v hv => by
        have := h v hv
        have : v ≠ n := fun e => hm (e ▸ hv)
        omega)
      omega
theorem chain {P : Nat → Nat → Prop} {n s : Nat} (hs : s < n) (h0 : P 0 s) (mono : ∀ k v, P k v → P (k + 1) v) (step : ∀ k, (∀ v, v < n → P (k + 1) v → P k v) → ∀ v, v < n → P (k + 2) v → P (k + 1) v) : ∀ k v, v < n → P k v → P n v := by
  have key : ∀ k, k ≤ n → (∃ j, j < k ∧ ∀ v, v < n → P (j + 1) v → P j v) ∨ ∃ l : List Nat, l.Nodup ∧ l.length = k + 1 ∧ ∀ v ∈ l, v < n ∧ P k v := by
    intro k
    induction k with
    | zero => exact fun _ => .inr ⟨[s], by simp, rfl, fun v hv => by simp at hv; subst hv; exact ⟨hs, h0⟩⟩
    | succ k ih =>
      intro hk
      rcases ih (by omega) with ⟨j, hj, h⟩ | ⟨l, l1, l2, l3⟩
      · exact .inl ⟨j, by omega, h⟩
      · by_cases hst : ∀ v, v < n → P (k + 1) v → P k v
        · exact .inl ⟨k, by omega, hst⟩
        · right
          have : ∃ v, v < n ∧ P (k + 1) v ∧ ¬ P k v := by
            refine Classical.byContradiction fun hc => hst fun v hv hp => Classical.byContradiction fun hnp => hc ⟨v, hv, hp, hnp⟩
          obtain ⟨v, hv, hp, hnp⟩ := this
          refine ⟨v :: l, List.nodup_cons.2 ⟨fun hm => hnp (l3 v hm).2, l1⟩, by simp [l2], fun u hu => ?_⟩
          rcases List.mem_cons.1 hu with rfl | hu
          · exact ⟨hv, hp⟩
          · exact ⟨(l3 u hu).1, mono _ _ (l3 u hu).2⟩
  obtain ⟨j, hj, hst⟩ : ∃ j, j < n ∧ ∀ v, v < n → P (j + 1) v → P j v := by
    rcases key n (Nat.le_refl _) with h | ⟨l, l1, l2, l3⟩
    · exact h
    · have := nodup_lt n l l1 fun v hv => (l3 v hv).1
      omega
  have up : ∀ d k v, P k v → P (k + d) v := by
    intro d
    induction d with
    | zero => exact fun k v h => h
    | succ d ih => exact fun k v h => mono _ _ (ih k v h)
  have stay : ∀ d, ∀ v, v < n → P (j + d + 1) v → P (j + d) v := by
    intro d
    induction d with
    | zero => exact hst
    | succ d ih => exact step (j + d) ih
  have down : ∀ d v, v < n → P (j + d) v → P j v := by
    intro d
    induction d with
    | zero => exact fun v _ h => h
    | succ d ih => exact fun v hv h => ih v hv (stay d v hv h)
  intro k v hv hp
  have h1 : P (j + k) v := by have := up j k v hp; rwa [Nat.add_comm] at this
  have h2 := down k v hv h1
  have := up (n - j) j v h2
  rwa [show j + (n - j) = n by omega] at this
inductive RK (E : Nat → Nat → Prop) (n v : Nat) : Nat → Nat → Prop
  | nil (k : Nat) : RK E n v k v
  | step (k j i : Nat) : RK E n v k j → j < n → i < n → E j i → RK E n v (k + 1) i
theorem RK.mono {E : Nat → Nat → Prop} {n v k i : Nat} (h : RK E n v k i) : ∀ {m : Nat}, k ≤ m → RK E n v m i := by
  induction h with
  | nil k => exact fun _ => .nil _
  | step k j i _ hj hi he ih =>
    intro m hm
    obtain ⟨m', rfl⟩ : ∃ m', m = m' + 1 := ⟨m - 1, by omega⟩
    exact .step m' j i (ih (by omega)) hj hi he
def Rch (E : Nat → Nat → Prop) (n v i : Nat) : Prop := ∃ k, RK E n v k i
theorem Rch.step {E : Nat → Nat → Prop} {n v j i : Nat} (h : Rch E n v j) (hj : j < n) (hi : i < n) (he : E j i) : Rch E n v i := let ⟨k, h⟩ := h; ⟨k + 1, .step k j i h hj hi he⟩
/-- below the line through i and j -/
def Sup (F : Int → Prop) (y : Int → Int) (i j : Int) : Prop := ∀ p, F p → (y p - y i) * (j - i) ≤ (y j - y i) * (p - i)
/-- the line through i and j is steeper than the line through j and k -/
abbrev Stp (y : Int → Int) (i j k : Int) : Prop := (y k - y j) * (j - i) < (y j - y i) * (k - j)
/-- vertices, the last one first -/
def HullR (F : Int → Prop) (y : Int → Int) : List Int → Prop
  | [] => True
  | [t] => F t ∧ ∀ p, F p → t ≤ p
  | j :: i :: r => F j ∧ i < j ∧ Sup F y i j ∧ (∀ h r', r = h :: r' → Stp y h i j) ∧ HullR F y (i :: r)
theorem HullR.tail {F : Int → Prop} {y : Int → Int} {j i : Int} {r : List Int} (h : HullR F y (j :: i :: r)) : HullR F y (i :: r) := h.2.2.2.2
def yC (c : List Int) (p : Int) : Int := (c[p.toNat]?).getD 0
structure TsOK (c ts : List Int) : Prop where
  bd : ∀ t ∈ ts, termB c c.length t
  inc : List.Pairwise (fun a b => a < b) ts
  ne : ts ≠ []
theorem TsOK.at {c ts : List Int} (h : TsOK c ts) {q : Nat} {t : Int} (ht : ts[q]? = some t) : 0 ≤ t ∧ t < c.length ∧ (-1000000 ≤ yC c t ∧ yC c t ≤ 1000000) := by
  obtain ⟨a, b, x, hx, hb⟩ := h.bd t (List.mem_of_getElem? ht)
  refine ⟨a, b, ?_⟩
  unfold yC
  rw [hx]
  exact finB_bd hb
theorem TsOK.lt {c ts : List Int} (h : TsOK c ts) {p q : Nat} {s t : Int} (hs : ts[p]? = some s) (ht : ts[q]? = some t) (hpq : p < q) : s < t := by
  obtain ⟨h1, e1⟩ := List.getElem?_eq_some_iff.1 hs
  obtain ⟨h2, e2⟩ := List.getElem?_eq_some_iff.1 ht
  have := List.pairwise_iff_getElem.1 h.inc p q h1 h2 hpq
  rw [e1, e2] at this; exact this
theorem sm0G : smG (⟨0, []⟩ : TGraph) := by simp [smG, smP]
theorem l11Index_ok (g : TGraph) (i : Int) (s : smG g) : M.Conv (spec_l11Index g i) (bif graphB g then bif inB i 0 (w64 ((g.Places.length : Int) - 1)) then 0 else 2 else 1) := by
  have hlen : g.Places.length ≤ 9223372036854775806 := by have := s; simp only [smG, smP] at this; omega
  unfold spec_l11Index
  refine M.Conv_bind (spec_IsEventGraph_ok hlen) ?_
  refine M.Conv_ite (fun t => (M.Conv_ret _).of (by cases h : graphB g <;> simp_all)) (fun t => ?_)
  rw [show graphB g = true by simpa using t]
  refine M.Conv_bind (spec_l01In_ok _ _ _) ?_
  exact M.Conv_ite (fun t => (M.Conv_ret _).of (by rw [Bool.not_eq_true'] at t; simp only [inB]; rw [t]; rfl)) (fun t => (M.Conv_ret _).of (by rw [Bool.not_eq_false'] at t; simp only [inB]; rw [t]; rfl))
def idxOK (g : TGraph) (i : Int) : Prop := graphB g = true ∧ 0 ≤ i ∧ i < g.Places.length
def dropG (g : TGraph) (i : Int) : TGraph := ⟨g.Events, g.Places.take i.toNat ++ g.Places.drop (i.toNat + 1)⟩
theorem dropG_sm {g : TGraph} (s : smG g) (i : Int) : smG (dropG g i) := by
  simp only [smG, smP, dropG, List.length_append, List.length_take, List.length_drop] at *; omega
theorem drop_impl {g : TGraph} {i : Int} (s : smG g) (h : idxOK g i) : M.Conv (impl_DropPlace g i) (dropG g i, 0) := by
  obtain ⟨h1, h2, h3⟩ := h
  have hs := s
  simp only [smG, smP] at hs
  unfold impl_DropPlace
  refine M.Conv_bind (impl_IsEventGraph_ok (by omega)) (M.Conv_ite (fun t => by rw [h1] at t; cases t) (fun _ => M.Conv_bind (impl_within_ok _ _ _) (M.Conv_ite (fun t => ?_) (fun _ => M.Conv_bind (impl_cloneGraph_ok s) (M.Conv_bind (x := g.Places.take i.toNat ++ g.Places.drop (i.toNat + 1)) ?_ (M.Conv_ret _))))))
  · rw [w64_eq _ (by omega)] at t; simp at t; omega
  · have ew : w64 (i + 1) = i + 1 := w64_eq _ (by omega)
    have e1 : (i + 1).toNat = i.toNat + 1 := by omega
    unfold slices_Delete_Place
    rw [ew]
    refine M.Conv_bind (M.Conv_sub (by omega) (by omega) (by omega)) (M.Conv_ite (fun t => by simp at t; omega) (fun _ => M.Conv_bind ((M.Conv_sub (by omega) (by omega) (by omega)).of (r' := g.Places.take i.toNat) (by simp)) (M.Conv_bind ((M.Conv_sub (by omega) (by omega) (by omega)).of (r' := g.Places.drop (i.toNat + 1)) ?_) (M.Conv_bind (M.Conv_app (by simp; omega)) (M.Conv_ret _)))))
    rw [e1]
    exact List.take_of_length_le (by rw [List.length_drop]; omega)
theorem drop_Two (g : TGraph) (i : Int) (s : smG g) : Two (spec_DropPlace g i) (impl_DropPlace g i) (fun w => smG w.1) := by
  have hs := s
  simp only [smG, smP] at hs
  have hI := l11Index_ok g i s
  cases hg : graphB g with
  | false =>
    rw [hg] at hI
    refine Two.mk (r := (⟨0, []⟩, 1)) ?_ ?_ sm0G
    · exact M.Conv_bind hI (M.Conv_ite (fun _ => M.Conv_ret _) (fun t => by simp at t))
    · exact M.Conv_bind (impl_IsEventGraph_ok (by omega)) (M.Conv_ite (fun _ => M.Conv_ret _) (fun t => by rw [hg] at t; cases t))
  | true =>
    rw [hg] at hI
    cases hi : inB i 0 (w64 ((g.Places.length : Int) - 1)) with
    | false =>
      rw [hi] at hI
      refine Two.mk (r := (⟨0, []⟩, 2)) ?_ ?_ sm0G
      · exact M.Conv_bind hI (M.Conv_ite (fun _ => M.Conv_ret _) (fun t => by simp at t))
      · refine M.Conv_bind (impl_IsEventGraph_ok (by omega)) (M.Conv_ite (fun t => by rw [hg] at t; cases t) (fun _ => M.Conv_bind (impl_within_ok _ _ _) (M.Conv_ite (fun _ => M.Conv_ret _) (fun t => ?_))))
        simp only [inB] at hi
        rw [hi] at t; cases t
    | true =>
      rw [hi] at hI
      have hi' := hi
      simp only [inB, Bool.and_eq_true, decide_eq_true_eq] at hi'
      rw [w64_eq _ (by omega)] at hi'
      refine Two.mk (r := (dropG g i, 0)) ?_ (drop_impl s ⟨hg, by omega, by omega⟩) (dropG_sm s i)
      have ew : w64 (i + 1) = i + 1 := w64_eq _ (by omega)
      have e1 : (i + 1).toNat = i.toNat + 1 := by omega
      unfold spec_DropPlace
      rw [ew]
      refine M.Conv_bind hI (M.Conv_ite (fun t => by simp at t) (fun _ => M.Conv_bind ((M.Conv_sub (by omega) (by omega) (by omega)).of (r' := g.Places.take i.toNat) (by simp)) (M.Conv_bind ((M.Conv_sub (by omega) (by omega) (by omega)).of (r' := g.Places.drop (i.toNat + 1)) ?_) (M.Conv_bind (M.Conv_app (by simp; omega)) (M.Conv_bind (M.Conv_app (by simp; omega)) (M.Conv_ret _))))))
      rw [e1]
      exact List.take_of_length_le (by rw [List.length_drop]; omega)
theorem l11Draw_ok {code : List Int} (hc : ByC code) {s : TL01source} (hs : Src code s) : M.TC (spec_l11Draw s) (fun r => (okTGraph r.1 ∧ r.1.Places.length ≤ 40) ∧ (-1 ≤ r.1.Events ∧ r.1.Events ≤ 11) ∧ Src code r.2) := by
  unfold spec_l11Draw
  rw [hs.code_]
  refine M.TC_bind (next_ok hc hs 5 (by omega)) fun x hx => M.TC_bind (next_ok hc (hx.1.mk' rfl) 9 (by omega)) fun y hy => ?_
  have ew : w64 (1 + x.1) = 1 + x.1 := w64_eq _ (by omega)
  rw [ew]
  have snoc : ∀ {l : List TPlace} {p : TPlace}, (∀ q ∈ l, okTPlace q) → okTPlace p → ∀ q ∈ l ++ [p], okTPlace q := fun h hp q hq => by
    rcases List.mem_append.1 hq with hq | hq
    · exact h q hq
    · simp at hq; subst hq; exact hp
  have i64 : ∀ v : Int, -1000000 ≤ v → v ≤ 1000000 → inI64 v := fun v a b => by unfold inI64; omega
  refine M.TC_bind (Mid := fun (r : Int × Int × List TPlace × Int) => Src code ⟨code, r.1, r.2.1⟩ ∧ (∀ q ∈ r.2.2.1, okTPlace q) ∧ r.2.2.1.length ≤ 9) (M.TC_loop (fun (r : Int × Int × List TPlace × Int) => Src code ⟨code, r.1, r.2.1⟩ ∧ (∀ q ∈ r.2.2.1, okTPlace q) ∧ 0 ≤ r.2.2.2 ∧ (r.2.2.1.length : Int) + r.2.2.2 ≤ 9) (fun r => r.2.2.2.toNat) _ ⟨hy.1.mk' rfl, by simp, by simp only; omega, by simp only [List.length_nil]; omega⟩ fun r hI => ?_) fun r hr => ?_
  · obtain ⟨h1, h2, h3, h4⟩ := hI
    refine M.TC_ite (fun t => ?_) (fun t => M.TC_ret (.inr ⟨_, rfl, h1, h2, by simp only; omega⟩))
    have t : 0 < r.2.2.2 := by simpa using t
    refine M.TC_bind (Mid := fun (q : Int × Int × TPlace) => Src code ⟨code, q.1, q.2.1⟩ ∧ okTPlace q.2.2) ?_ fun q hq => ?_
    · refine M.TC_bind (next_ok hc h1 _ (by omega)) fun a ha => M.TC_bind (next_ok hc (ha.1.mk' rfl) _ (by omega)) fun b hb => M.TC_bind (next_ok hc (hb.1.mk' rfl) 12 (by omega)) fun d hd => M.TC_ret ⟨hd.1.mk' rfl, ?_⟩
      exact ⟨i64 _ (by simp only; omega) (by simp only; omega), i64 _ (by simp only; omega) (by simp only; omega), i64 _ (by simp only; omega) (by simp only; omega), i64 _ (by simp) (by simp)⟩
    · refine M.TC_bind (Mid := fun (q : Int × Int × Bool) => Src code ⟨code, q.1, q.2.1⟩) (M.TC_ite (fun _ => M.TC_ret hq.1) (fun _ => M.TC_bind (next_ok hc hq.1 4 (by omega)) fun d hd => M.TC_ret (hd.1.mk' rfl))) fun u hu => ?_
      refine M.TC_bind (Mid := fun (q : Int × Int × TPlace) => Src code ⟨code, q.1, q.2.1⟩ ∧ okTPlace q.2.2) (M.TC_ite (fun _ => M.TC_bind (next_ok hc hu 2 (by omega)) fun d hd => M.TC_bind (next_ok hc (hd.1.mk' rfl) 3 (by omega)) fun e he => M.TC_ret ⟨he.1.mk' rfl, hq.2.1, hq.2.2.1, hq.2.2.2.1, w64_bd _⟩) (fun _ => M.TC_ret ⟨hu, hq.2⟩)) fun v hv => ?_
      refine M.TC_bind (next_ok hc hv.1 30 (by omega)) fun d hd => M.TC_bind (Mid := okTPlace) (M.TC_ite (fun _ => M.TC_ret ⟨hv.2.1, hv.2.2.1, hv.2.2.2.1, i64 _ (by simp) (by simp)⟩) (fun _ => M.TC_ret hv.2)) fun p hp => ?_
      refine M.TC_bindC (M.Conv_app (by simp; omega)) (M.TC_ret (.inl ⟨_, rfl, ⟨hd.1.mk' rfl, snoc h2 hp, ?_, ?_⟩, ?_⟩))
      · simp only; rw [w64_eq _ (by omega)]; omega
      · simp only [List.length_append, List.length_cons, List.length_nil]; rw [w64_eq _ (by omega)]; omega
      · simp only; rw [w64_eq _ (by omega)]; omega
  · obtain ⟨h1, h2, h3⟩ := hr
    refine M.TC_bind (next_ok hc h1 60 (by omega)) fun z hz => ?_
    refine M.TC_bind (Mid := fun (q : Int × List TPlace × Int × Int) => ((-1 ≤ q.1 ∧ q.1 ≤ 11) ∧ (∀ p ∈ q.2.1, okTPlace p) ∧ q.2.1.length ≤ 40) ∧ Src code ⟨code, q.2.2.1, q.2.2.2⟩) ?_ fun q hq => M.TC_ret ⟨⟨⟨i64 _ (by have := hq.1.1; simp only; omega) (by have := hq.1.1; simp only; omega), by have := hq.1.2.2; simp only; omega, hq.1.2.1⟩, hq.1.2.2⟩, hq.1.1, hq.2.mk' rfl⟩
    refine M.TC_ite (fun _ => ?_) (fun _ => M.TC_ite (fun _ => ?_) (fun _ => M.TC_ite (fun _ => ?_) (fun _ => M.TC_ite (fun _ => ?_) (fun _ => M.TC_ret ⟨⟨by simp only; omega, h2, by simp only; omega⟩, hz.1.mk' rfl⟩))))
    · exact M.TC_bind (pick_ok hc (hz.1.mk' rfl) _ (by simp) (by simp) (fun v => -1 ≤ v ∧ v ≤ 11) (by simp)) fun a ha => M.TC_ret ⟨⟨ha.2, h2, by simp only; omega⟩, ha.1.mk' rfl⟩
    · refine M.TC_bind (Mid := fun (q : List TPlace × Int × Int) => ((∀ p ∈ q.1, okTPlace p) ∧ q.1.length ≤ 10) ∧ Src code ⟨code, q.2.1, q.2.2⟩) ?_ fun q hq => M.TC_ret ⟨⟨by simp only; omega, hq.1.1, by have := hq.1.2; simp only; omega⟩, hq.2⟩
      refine M.TC_bind (pick_ok hc (hz.1.mk' rfl) _ (by simp) (by simp) inI64 (by simp [inI64]; omega)) fun a ha => M.TC_bind (pick_ok hc (ha.1.mk' rfl) _ (by simp) (by simp) inI64 (by simp [inI64])) fun b hb => M.TC_bindC (M.Conv_app (by simp; omega)) (M.TC_ret ⟨⟨snoc h2 ⟨ha.2, i64 _ (by simp) (by simp), hb.2, i64 _ (by simp) (by simp)⟩, by simp; omega⟩, hb.1.mk' rfl⟩)
    · exact M.TC_bind (pick_ok hc (hz.1.mk' rfl) _ (by simp) (by simp) inI64 (by simp [inI64])) fun a ha => M.TC_bindC (M.Conv_app (by simp; omega)) (M.TC_ret ⟨⟨by simp only; omega, snoc h2 ⟨i64 _ (by simp) (by simp), i64 _ (by simp) (by simp), i64 _ (by simp) (by simp), ha.2⟩, by simp; omega⟩, ha.1.mk' rfl⟩)
    · refine M.TC_bind (Mid := fun (q : Int × Int × List TPlace × Int) => Src code ⟨code, q.1, q.2.1⟩ ∧ (∀ p ∈ q.2.2.1, okTPlace p) ∧ q.2.2.1.length ≤ 40) (M.TC_loop (fun (q : Int × Int × List TPlace × Int) => Src code ⟨code, q.1, q.2.1⟩ ∧ (∀ p ∈ q.2.2.1, okTPlace p) ∧ (0 ≤ q.2.2.2 ∧ q.2.2.2 ≤ 31) ∧ (q.2.2.1.length : Int) ≤ 9 + q.2.2.2) (fun q => (32 - q.2.2.2).toNat) _ ⟨hz.1.mk' rfl, h2, by simp, by simp only; omega⟩ fun q hI => ?_) fun q hq => M.TC_ret ⟨⟨by simp only; omega, hq.2.1, hq.2.2⟩, hq.1⟩
      obtain ⟨g1, g2, g3, g4⟩ := hI
      refine M.TC_bind (next_ok hc g1 9 (by omega)) fun a ha => M.TC_ite (fun t => ?_) (fun _ => M.TC_ret (.inr ⟨_, rfl, ha.1.mk' rfl, g2, by simp only; omega⟩))
      have t := of_decide_eq_true t
      rw [w64_eq _ (by omega)] at t
      refine M.TC_bindC (M.Conv_app (by simp; omega)) (M.TC_ret (.inl ⟨_, rfl, ⟨ha.1.mk' rfl, snoc g2 ⟨i64 _ (by simp) (by simp), i64 _ (by simp) (by simp), i64 _ (by simp only; omega) (by simp only; omega), i64 _ (by simp) (by simp)⟩, ?_, ?_⟩, ?_⟩))
      · simp only; rw [w64_eq _ (by omega)]; omega
      · simp only [List.length_append, List.length_cons, List.length_nil]; rw [w64_eq _ (by omega)]; omega
      · simp only; rw [w64_eq _ (by omega)]; omega
structure GrS (g : TGraph) : Prop where
  ok : okTGraph g
  len : g.Places.length ≤ 40
theorem GrS.sm {g : TGraph} (h : GrS g) : smG g := by have := h.len; simp only [smG, smP]; omega
theorem l11DrawEvent_ok {code : List Int} (hc : ByC code) {s : TL01source} (hs : Src code s) : M.TC (spec_l11DrawEvent s) (fun r => GrS r.1 ∧ inI64 r.2.1 ∧ Src code r.2.2) := by
  unfold spec_l11DrawEvent
  rw [hs.code_]
  refine M.TC_bind (l11Draw_ok hc hs) fun x hx => M.TC_bind (next_ok hc (hx.2.2.mk' rfl) 20 (by omega)) fun y hy => M.TC_ite (fun _ => ?_) (fun _ => ?_)
  · exact M.TC_bind (pick_ok hc (hy.1.mk' rfl) _ (by simp) (by simp) inI64 (by simp [inI64]; omega)) fun z hz => M.TC_ret ⟨⟨hx.1.1, hx.1.2⟩, hz.2, hz.1.mk' rfl⟩
  · exact M.TC_bind (next_ok hc (hy.1.mk' rfl) _ (by omega)) fun z hz => M.TC_ret ⟨⟨hx.1.1, hx.1.2⟩, by unfold inI64; simp only; omega, hz.1.mk' rfl⟩
theorem l11DrawIndex_ok {code : List Int} (hc : ByC code) {s : TL01source} (hs : Src code s) : M.TC (spec_l11DrawIndex s) (fun r => GrS r.1 ∧ inI64 r.2.1 ∧ Src code r.2.2) := by
  unfold spec_l11DrawIndex
  rw [hs.code_]
  refine M.TC_bind (l11Draw_ok hc hs) fun x hx => M.TC_bind (next_ok hc (hx.2.2.mk' rfl) 20 (by omega)) fun y hy => ?_
  have hl := hx.1.2
  refine M.TC_ite (fun _ => ?_) (fun _ => ?_)
  · exact M.TC_bind (pick_ok hc (hy.1.mk' rfl) _ (by simp) (by simp) inI64 (by simp [inI64]; omega)) fun z hz => M.TC_ret ⟨⟨hx.1.1, hx.1.2⟩, hz.2, hz.1.mk' rfl⟩
  · exact M.TC_bind (next_ok hc (hy.1.mk' rfl) _ (by omega)) fun z hz => M.TC_ret ⟨⟨hx.1.1, hx.1.2⟩, by unfold inI64; simp only; omega, hz.1.mk' rfl⟩
theorem likeG_refl {g : TGraph} (h : smG g) : M.Conv (laws_likeGraphs9 g g) true := by
  simp only [smG, smP] at h
  unfold laws_likeGraphs9
  refine M.Conv_ite (fun t => by simp at t) (fun _ => M.Conv_bind (x := (Sum.inl (g.Places.length : Int) : Int ⊕ Bool)) ((Conv_while (l := g.Places) (fun _ _ => none) (.inl (g.Places.length : Int)) (fun i x hx => ?_) ?_).of ?_) (M.Conv_ret _))
  · have hi := (List.getElem?_eq_some_iff.1 hx).1
    have gx : M.Conv (M.idx g.Places (i : Int)) x := M.Conv_get (by omega) (by simpa using hx)
    refine M.Conv_ite (fun _ => M.Conv_bind gx (M.Conv_bind gx (M.Conv_ite (fun t => by simp at t) (fun _ => (M.Conv_ret _).of (by rw [w64_eq _ (by omega)]))))) (fun t => by have := of_decide_eq_false t; omega)
  · exact M.Conv_ite (fun t => by have := of_decide_eq_true t; omega) (fun _ => M.Conv_ret _)
  · have : ∀ (l : List TPlace) (i : Nat) (e : Int ⊕ Bool), runO (fun _ (_ : TPlace) => none) e i l = e := by
      intro l
      induction l with
      | nil => intro i e; rfl
      | cons x xs ih => intro i e; simp only [runO]; exact ih _ _
    exact this _ _ _
def setP (g : TGraph) (i d t : Int) : TGraph := ⟨g.Events, g.Places.set i.toNat (match g.Places[i.toNat]? with | some p => ⟨p.From, p.To, d, t⟩ | none => ⟨0, 0, d, t⟩)⟩
def changeOK (g : TGraph) (i d t : Int) : Prop := idxOK g i ∧ (0 ≤ d ∧ d ≤ 1000) ∧ 0 ≤ t ∧ t ≤ 5
theorem change_impl {g : TGraph} {i d t : Int} (s : smG g) (h : changeOK g i d t) : M.Conv (impl_ChangePlace g i d t) (setP g i d t, 0) := by
  obtain ⟨⟨h1, h2, h3⟩, h4, h5⟩ := h
  have hs := s
  simp only [smG, smP] at hs
  have hget : g.Places[i.toNat]? = some (g.Places[i.toNat]'(by omega)) := List.getElem?_eq_getElem _
  generalize g.Places[i.toNat]'(by omega) = p at hget
  unfold impl_ChangePlace
  refine M.Conv_bind (impl_IsEventGraph_ok (by omega)) (M.Conv_ite (fun q => by rw [h1] at q; cases q) (fun _ => M.Conv_bind (impl_within_ok _ _ _) (M.Conv_bind (x := false) (M.Conv_ite (fun q => ?_) (fun _ => M.Conv_bind (impl_within_ok _ _ _) ((M.Conv_ret _).of (by simp; omega)))) (M.Conv_bind (x := false) (M.Conv_ite (fun q => by cases q) (fun _ => M.Conv_bind (impl_within_ok _ _ _) ((M.Conv_ret _).of (by simp; omega)))) (M.Conv_ite (fun q => by cases q) (fun _ => M.Conv_bind (impl_cloneGraph_ok s) (M.Conv_bind (M.Conv_get h2 hget) (M.Conv_bind (updC _ h2 h3) (M.Conv_bind (x := ⟨p.From, p.To, d, p.Tokens⟩) (M.Conv_get h2 ?_) (M.Conv_bind (updC _ h2 (by rw [List.length_set]; exact h3)) ((M.Conv_ret _).of ?_)))))))))))
  · rw [w64_eq _ (by omega)] at q; simp at q; omega
  · rw [List.getElem?_set_self (by omega)]
  · unfold setP
    rw [hget, List.set_set]
theorem change_rev {g : TGraph} {i d t : Int} {w : TGraph × Int} (s : smG g) (h : M.Conv (impl_ChangePlace g i d t) w) (h0 : w.2 = 0) : changeOK g i d t := by
  have hs := s
  simp only [smG, smP] at hs
  refine Classical.byContradiction fun hn => ?_
  have key : ∃ r : TGraph × Int, M.Conv (impl_ChangePlace g i d t) r ∧ r.2 ≠ 0 := by
    unfold impl_ChangePlace
    cases hg : graphB g with
    | false => exact ⟨(⟨0, []⟩, 1), M.Conv_bind (impl_IsEventGraph_ok (by omega)) (M.Conv_ite (fun _ => M.Conv_ret _) (fun q => by rw [hg] at q; cases q)), by decide⟩
    | true =>
      refine ⟨(⟨0, []⟩, 2), M.Conv_bind (impl_IsEventGraph_ok (by omega)) (M.Conv_ite (fun q => by rw [hg] at q; cases q) (fun _ => M.Conv_bind (impl_within_ok _ _ _) ?_)), by decide⟩
      refine M.Conv_bind (x := !(decide (0 ≤ i) && decide (i ≤ w64 ((g.Places.length : Int) - 1))) || !(decide (0 ≤ d) && decide (d ≤ 1000))) (Conv_or fun _ => M.Conv_bind (impl_within_ok _ _ _) (M.Conv_ret _)) (M.Conv_bind (x := (!(decide (0 ≤ i) && decide (i ≤ w64 ((g.Places.length : Int) - 1))) || !(decide (0 ≤ d) && decide (d ≤ 1000))) || !(decide (0 ≤ t) && decide (t ≤ 5))) (Conv_or fun _ => M.Conv_bind (impl_within_ok _ _ _) (M.Conv_ret _)) (M.Conv_ite (fun _ => M.Conv_ret _) (fun q => ?_)))
      exfalso
      rw [w64_eq _ (by omega)] at q
      simp only [Bool.or_eq_false_iff, Bool.not_eq_false', Bool.and_eq_true, decide_eq_true_eq] at q
      exact hn ⟨⟨hg, by omega, by omega⟩, by omega, by omega⟩
  obtain ⟨r, r1, r2⟩ := key
  have := h.unique r1
  rw [this] at h0
  exact r2 h0
theorem setP_back {g : TGraph} {i d t : Int} (h : changeOK g i d t) {p : TPlace} (hp : g.Places[i.toNat]? = some p) : changeOK (setP g i d t) i p.Delay p.Tokens ∧ setP (setP g i d t) i p.Delay p.Tokens = g := by
  obtain ⟨⟨h1, h2, h3⟩, h4, h5⟩ := h
  have hlt := (List.getElem?_eq_some_iff.1 hp).1
  have e1 : setP g i d t = ⟨g.Events, g.Places.set i.toNat ⟨p.From, p.To, d, t⟩⟩ := by unfold setP; rw [hp]
  have hg := h1
  simp only [graphB, Bool.and_eq_true, List.all_eq_true] at hg
  obtain ⟨⟨g1, g2⟩, g3⟩ := hg
  have gp := g3 p (List.mem_of_getElem? hp)
  have gp' := gp
  simp only [placeB, inB, Bool.and_eq_true, decide_eq_true_eq] at gp'
  refine ⟨⟨⟨?_, h2, ?_⟩, by omega, by omega⟩, ?_⟩
  · rw [e1]
    simp only [graphB, Bool.and_eq_true, List.all_eq_true, List.length_set]
    refine ⟨⟨g1, g2⟩, fun q hq => ?_⟩
    rcases List.mem_or_eq_of_mem_set hq with hq | rfl
    · exact g3 q hq
    · simp only [placeB, inB, Bool.and_eq_true, decide_eq_true_eq]
      omega
  · rw [e1]; simp only [List.length_set]; exact h3
  · rw [e1]
    unfold setP
    simp only
    rw [List.getElem?_set_self hlt]
    simp only [List.set_set]
    have : g.Places.set i.toNat p = g.Places := by
      refine List.ext_getElem? fun j => ?_
      by_cases e : i.toNat = j
      · subst e; rw [List.getElem?_set_self hlt, hp]
      · rw [List.getElem?_set_ne e]
    rw [this]
theorem idxs_count (p : TPlace → Bool) (l : List TPlace) : (idxs p l).length = l.countP p := by
  have key : ∀ (l : List TPlace) (i : Nat), ((l.zipIdx i).filter fun q => p q.1).length = l.countP p := by
    intro l
    induction l with
    | nil => intro i; rfl
    | cons x xs ih =>
      intro i
      rw [List.zipIdx_cons, List.filter_cons, List.countP_cons]
      cases hx : p x with
      | true => simp [hx, ih]
      | false => simp [hx, ih]
  unfold idxs
  rw [List.length_map]
  exact key l 0
/-- how many elements have a value below k -/
theorem count_split (f : TPlace → Int) (l : List TPlace) (k : Nat) : (l.countP fun p => decide (0 ≤ f p ∧ f p < k)) + (l.countP fun p => f p == (k : Int)) = l.countP fun p => decide (0 ≤ f p ∧ f p < (k + 1 : Nat)) := by
  induction l with
  | nil => rfl
  | cons x xs ih =>
    simp only [List.countP_cons]
    by_cases e1 : f x = k
    · have a1 : (f x == (k : Int)) = true := by simpa using e1
      have a2 : decide (0 ≤ f x ∧ f x < (k : Int)) = false := by rw [decide_eq_false]; omega
      have a3 : decide (0 ≤ f x ∧ f x < ((k + 1 : Nat) : Int)) = true := by rw [decide_eq_true]; omega
      rw [a1, a2, a3]; simp only [if_true, Bool.false_eq_true, if_false]; omega
    · have a1 : (f x == (k : Int)) = false := by simpa using e1
      have a2 : decide (0 ≤ f x ∧ f x < (k : Int)) = decide (0 ≤ f x ∧ f x < ((k + 1 : Nat) : Int)) := by rw [Bool.eq_iff_iff]; simp; omega
      rw [a1, a2]; simp only [Bool.false_eq_true, if_false]; omega
theorem places_ok {g : TGraph} (s : smG g) (e : Int) : M.Conv (impl_PlacesInto g e) (bif decide (eventC g e = 0) then (idxs (fun p => p.To == e) g.Places, 0) else ([], eventC g e)) ∧ M.Conv (impl_PlacesFrom g e) (bif decide (eventC g e = 0) then (idxs (fun p => p.From == e) g.Places, 0) else ([], eventC g e)) := by
  have hs := s
  unfold smG smP at hs
  unfold impl_PlacesInto impl_PlacesFrom
  constructor
  · refine M.Conv_bind (impl_checkEvent_ok g e s) (M.Conv_ite (fun t => (M.Conv_ret _).of ?_) (fun t => M.Conv_bind (placesWith_ok g (fun p => p.To == e) (fun p => impl_PlacesInto_1 p e) (fun x => M.Conv_ret _) (by omega)) ((M.Conv_ret _).of ?_)))
    · rw [decide_eq_false (by simpa using t)]; rfl
    · rw [decide_eq_true (by simpa using t)]; rfl
  · refine M.Conv_bind (impl_checkEvent_ok g e s) (M.Conv_ite (fun t => (M.Conv_ret _).of ?_) (fun t => M.Conv_bind (placesWith_ok g (fun p => p.From == e) (fun p => impl_PlacesFrom_1 p e) (fun x => M.Conv_ret _) (by omega)) ((M.Conv_ret _).of ?_)))
    · rw [decide_eq_false (by simpa using t)]; rfl
    · rw [decide_eq_true (by simpa using t)]; rfl
theorem count_tail {g : TGraph} (hs : GrS g) (hg : graphB g = true) : M.TC (M.bind (M.loop (fun (s4 : Int × Int) => M.ite (decide (s4.2 < g.Events)) (M.bind (impl_PlacesInto g s4.2) (fun x37 => M.bind (impl_PlacesFrom g s4.2) (fun x38 => M.ite ((x37.2 != 0) || (x38.2 != 0)) (M.ret (.inr (.inr false))) (M.ret (.inl ((w64 ((w64 (s4.1 + (x37.1.length : Int))) + (x38.1.length : Int))), (w64 (s4.2 + 1)))))))) (M.ret (.inr (.inl (s4.1, s4.2))))) (0, 0)) (fun x36 => M.cont x36 (fun s5 => M.ret (s5.1 == (w64 (2 * (g.Places.length : Int))))) (fun r => M.ret r)) : M Bool) (fun r => r = true) := by
  have hl := hs.len
  have hgb := hg
  simp only [graphB, inB, placeB, Bool.and_eq_true, decide_eq_true_eq, List.all_eq_true] at hg
  obtain ⟨⟨⟨e1, e2⟩, e3⟩, e4⟩ := hg
  have cl : ∀ (p : TPlace → Bool), g.Places.countP p ≤ 40 := fun p => Nat.le_trans List.countP_le_length hl
  refine M.TC_bind (Mid := fun (y : (Int × Int) ⊕ Bool) => ∃ m, y = .inl ((2 * g.Places.length : Nat), m)) (M.TC_loop (fun (r : Int × Int) => ∃ k : Nat, (k : Int) ≤ g.Events ∧ r = ((((g.Places.countP fun p => decide (0 ≤ p.To ∧ p.To < (k : Int))) + (g.Places.countP fun p => decide (0 ≤ p.From ∧ p.From < (k : Int))) : Nat) : Int), (k : Int))) (fun r => (g.Events - r.2).toNat) _ ⟨0, by omega, ?_⟩ fun r hI => ?_) fun y hy => ?_
  · refine Prod.ext ?_ rfl
    have z : ∀ f : TPlace → Int, (g.Places.countP fun p => decide (0 ≤ f p ∧ f p < ((0 : Nat) : Int))) = 0 := fun f => List.countP_eq_zero.2 fun p _ h => by simp at h; omega
    rw [z, z]; rfl
  · obtain ⟨k, hk, rfl⟩ := hI
    refine M.TC_ite (fun t => ?_) (fun t => M.TC_ret (.inr ⟨_, rfl, _, congrArg Sum.inl (Prod.ext ?_ rfl)⟩))
    · have t : (k : Int) < g.Events := of_decide_eq_true t
      obtain ⟨p1, p2⟩ := places_ok hs.sm (k : Int)
      have hz : eventC g (k : Int) = 0 := by
        have : inB (k : Int) 0 (w64 (g.Events - 1)) = true := by simp only [inB, Bool.and_eq_true, decide_eq_true_eq]; rw [w64_eq _ (by omega)]; omega
        simp only [eventC, hgb, this, cond_true]
      rw [hz] at p1 p2
      refine M.TC_bindC p1 (M.TC_bindC p2 (M.TC_ite (fun t => by simp at t) (fun _ => M.TC_ret (.inl ⟨_, rfl, ⟨k + 1, by omega, ?_⟩, ?_⟩))))
      · rw [← count_split (fun p => p.To), ← count_split (fun p => p.From)]
        simp only [decide_true, cond_true, idxs_count]
        have c1 := cl fun p => decide (0 ≤ p.To ∧ p.To < (k : Int))
        have c2 := cl fun p => decide (0 ≤ p.From ∧ p.From < (k : Int))
        have c3 := cl fun p => p.To == (k : Int)
        have c4 := cl fun p => p.From == (k : Int)
        generalize (g.Places.countP fun p => decide (0 ≤ p.To ∧ p.To < (k : Int))) = n1 at c1 ⊢
        generalize (g.Places.countP fun p => decide (0 ≤ p.From ∧ p.From < (k : Int))) = n2 at c2 ⊢
        generalize (g.Places.countP fun p => p.To == (k : Int)) = n3 at c3 ⊢
        generalize (g.Places.countP fun p => p.From == (k : Int)) = n4 at c4 ⊢
        refine Prod.ext ?_ ?_
        · simp only
          rw [w64_eq (((n1 + n2 : Nat) : Int) + (n3 : Int)) (by omega), w64_eq _ (by omega)]; omega
        · simp only
          rw [w64_eq _ (by omega)]; omega
      · simp only
        rw [w64_eq _ (by omega)]; omega
    · have t : ¬ (k : Int) < g.Events := of_decide_eq_false t
      have ke : (k : Int) = g.Events := by omega
      have z : ∀ f : TPlace → Int, (∀ p ∈ g.Places, 0 ≤ f p ∧ f p < g.Events) → (g.Places.countP fun p => decide (0 ≤ f p ∧ f p < (k : Int))) = g.Places.length := fun f h => List.countP_eq_length.2 fun p hp => by
        have := h p hp
        rw [decide_eq_true]; omega
      simp only
      rw [z (fun p => p.To) fun p hp => by have := (e4 p hp).1.1.2; rw [w64_eq _ (by omega)] at this; omega, z (fun p => p.From) fun p hp => by have := (e4 p hp).1.1.1; rw [w64_eq _ (by omega)] at this; omega]
      omega
  · obtain ⟨m, rfl⟩ := hy
    refine M.TC_ret ?_
    rw [w64_eq _ (by omega)]; simp
theorem cmpG {x : TGraph} {c : Int} (h : smG x) (q : Bool) (hq : q = false) : M.Conv (M.ite (q || (c != c)) (M.ret true) (M.bind (laws_likeGraphs9 x x) (fun x12 => M.ret (!x12)))) false := by
  subst hq
  exact M.Conv_ite (fun t => by simp at t) (fun _ => M.Conv_bind (likeG_refl h) (M.Conv_ret _))
theorem FnPlaces_ok (code : List Int) (h : fitL inU8 code) : M.Conv (laws_FnPlaces code) true := by
  apply M.TC.conv
  unfold laws_FnPlaces
  refine M.TC_bindC (big_ok code) (M.TC_ite (fun _ => M.TC_ret rfl) (fun hb => ?_))
  have hbc := ByC.of h hb
  have d1 : M.TC (spec_DrawPlacesInto code) (fun r => GrS r.1 ∧ inI64 r.2) := by
    unfold spec_DrawPlacesInto
    exact M.TC_bind (from_ok hbc) fun s hs => M.TC_bind (l11DrawEvent_ok hbc hs) fun x hx => M.TC_ret ⟨hx.1, hx.2.1⟩
  have d2 : M.TC (spec_DrawChangePlace code) (fun r => GrS r.1 ∧ inI64 r.2.1 ∧ inI64 r.2.2.1 ∧ inI64 r.2.2.2) := by
    unfold spec_DrawChangePlace
    refine M.TC_bind (from_ok hbc) fun s hs => ?_
    rw [hs.code_]
    refine M.TC_bind (l11DrawIndex_ok hbc hs) fun x hx => M.TC_bind (next_ok hbc (hx.2.2.mk' rfl) 12 (by omega)) fun y hy => M.TC_ite (fun _ => ?_) (fun _ => ?_)
    · refine M.TC_bind (Mid := fun (q : Int × Int) => inI64 q.1 ∧ inI64 q.2) (M.TC_bind (pick_ok hbc (hy.1.mk' rfl) _ (by simp) (by simp) inI64 (by simp [inI64])) fun a ha => M.TC_bind (pick_ok hbc (ha.1.mk' rfl) _ (by simp) (by simp) inI64 (by simp [inI64])) fun b hb => M.TC_ret ⟨ha.2, hb.2⟩) fun q hq => M.TC_ret ⟨hx.1, hx.2.1, hq.1, hq.2⟩
    · exact M.TC_bind (next_ok hbc (hy.1.mk' rfl) 20 (by omega)) fun a ha => M.TC_bind (next_ok hbc (ha.1.mk' rfl) 4 (by omega)) fun b hb => M.TC_ret ⟨hx.1, hx.2.1, by unfold inI64; simp only; omega, by unfold inI64; simp only; omega⟩
  have d3 : M.TC (spec_DrawDropPlace code) (fun r => GrS r.1 ∧ inI64 r.2) := by
    unfold spec_DrawDropPlace
    exact M.TC_bind (from_ok hbc) fun s hs => M.TC_bind (l11DrawIndex_ok hbc hs) fun x hx => M.TC_ret ⟨hx.1, hx.2.1⟩
  refine M.TC_bind d1 fun r hr => ?_
  obtain ⟨g, e⟩ := r
  obtain ⟨hg, he⟩ := hr
  simp only at hg he ⊢
  obtain ⟨w1, p1, q1, s1⟩ := same_PlacesInto g hg.ok e he hg.sm
  obtain ⟨w2, p2, q2, s2⟩ := same_PlacesFrom g hg.ok e he hg.sm
  refine M.TC_bindC q1 (M.TC_bindC p1 (M.TC_bindC q2 (M.TC_bindC p2 (M.TC_bind d2 fun r hr => ?_))))
  obtain ⟨g2, i, d, t⟩ := r
  obtain ⟨hg2, hi, hd, ht⟩ := hr
  simp only at hg2 hi hd ht ⊢
  obtain ⟨w3, p3, q3, s3⟩ := same_ChangePlace g2 hg2.ok i hi d hd t ht hg2.sm
  refine M.TC_bindC q3 (M.TC_bindC p3 (M.TC_bind d3 fun r hr => ?_))
  obtain ⟨g3, j⟩ := r
  obtain ⟨hg3, hj⟩ := hr
  simp only at hg3 hj ⊢
  obtain ⟨w4, p4, q4, s4⟩ := drop_Two g3 j hg3.sm
  refine M.TC_bindC q4 (M.TC_bindC p4 (M.TC_bindC (cmp_list0 s1) (M.TC_bindC (cmp_list s2 _ rfl) (M.TC_bindC (cmpG s3 _ rfl) (M.TC_bindC (cmpG s4 _ rfl) (M.TC_ite (fun t => by cases t) (fun _ => ?_)))))))
  have tail : M.TC (M.ite (w1.2 != 0) (M.ret true) (M.bind (M.loop (fun (s4 : Int × Int) => M.ite (decide (s4.2 < g.Events)) (M.bind (impl_PlacesInto g s4.2) (fun x37 => M.bind (impl_PlacesFrom g s4.2) (fun x38 => M.ite ((x37.2 != 0) || (x38.2 != 0)) (M.ret (.inr (.inr false))) (M.ret (.inl ((w64 ((w64 (s4.1 + (x37.1.length : Int))) + (x38.1.length : Int))), (w64 (s4.2 + 1)))))))) (M.ret (.inr (.inl (s4.1, s4.2))))) (0, 0)) (fun x36 => M.cont x36 (fun s5 => M.ret (s5.1 == (w64 (2 * (g.Places.length : Int))))) (fun r => M.ret r))) : M Bool) (fun r => r = true) := by
    refine M.TC_ite (fun _ => M.TC_ret rfl) (fun t => count_tail hg ?_)
    have t : w1.2 = 0 := by simpa using t
    have e1 := q1.unique (places_ok hg.sm e).1
    cases hgb : graphB g with
    | true => rfl
    | false =>
      have : eventC g e = 1 := by simp [eventC, hgb]
      rw [this] at e1
      rw [e1] at t; cases t
  refine M.TC_ite (fun t3 => ?_) (fun _ => tail)
  have t3 : w3.2 = 0 := by simpa using t3
  have hok := change_rev hg2.sm q3 t3
  have e3 := q3.unique (change_impl hg2.sm hok)
  obtain ⟨⟨o1, o2, o3⟩, o4⟩ := id hok
  have hget : g2.Places[i.toNat]? = some (g2.Places[i.toNat]'(by omega)) := List.getElem?_eq_getElem _
  generalize g2.Places[i.toNat]'(by omega) = p at hget
  obtain ⟨b1, b2⟩ := setP_back hok hget
  have gp : M.Conv (M.idx g2.Places i) p := M.Conv_get o2 hget
  have hb3 : smG (setP g2 i d t) := by have := hg2.len; simp only [smG, smP, setP, List.length_set]; omega
  have hback := change_impl hb3 b1
  rw [b2] at hback
  rw [e3]
  simp only
  refine M.TC_bindC (x := (g2.Events, g2.Places, (0 : Int))) (M.Conv_bind gp (M.Conv_bind gp (M.Conv_bind hback (M.Conv_ret _)))) (M.TC_bindC (x := false) (M.Conv_ite (fun t => by simp at t) (fun _ => M.Conv_bind (likeG_refl hg2.sm) (M.Conv_ret _))) (M.TC_ite (fun t => by cases t) (fun _ => tail)))

inductive Chn (a : List (List Int)) (n : Nat) : List Nat → Int → Prop
  | one (v : Nat) : v < n → Chn a n [v] 0
  | cons (u v : Nat) (r : List Nat) (w : Int) : u < n → entA a v u ≠ -1000000000000000 → Chn a n (v :: r) w → Chn a n (u :: v :: r) (entA a v u + w)
theorem Chn.lt {a : List (List Int)} {n : Nat} {l : List Nat} {w : Int} (h : Chn a n l w) : ∀ x ∈ l, x < n := by
  induction h with
  | one v hv => intro x hx; simp at hx; subst hx; exact hv
  | cons u v r w hu _ _ ih =>
    intro x hx
    rcases List.mem_cons.1 hx with rfl | hx
    · exact hu
    · exact ih x hx
theorem Chn.unique {a : List (List Int)} {n : Nat} {l : List Nat} {w : Int} (h : Chn a n l w) : ∀ {w' : Int}, Chn a n l w' → w = w' := by
  induction h with
  | one v hv => intro w' h'; cases h'; rfl
  | cons u v r w hu _ _ ih => intro w' h'; cases h' with | cons _ _ _ w2 _ _ h2 => rw [ih h2]
theorem Chn.split {a : List (List Int)} {n : Nat} {v : Nat} {z : List Nat} : ∀ {x : List Nat} {w : Int}, Chn a n (x ++ v :: z) w → ∃ w1 w2, w = w1 + w2 ∧ Chn a n (x ++ [v]) w1 ∧ Chn a n (v :: z) w2
  | [], w, h => ⟨0, w, by omega, .one v (h.lt v (by simp)), h⟩
  | [u], w, h => by
    cases h with
    | cons _ _ _ w' hu ha h => exact ⟨entA a v u, w', rfl, by have := Chn.cons u v [] 0 hu ha (.one v (h.lt v (by simp))); rwa [Int.add_zero] at this, h⟩
  | u :: u' :: x, w, h => by
    cases h with
    | cons _ _ _ w' hu ha h =>
      obtain ⟨w1, w2, rfl, h1, h2⟩ := Chn.split (x := u' :: x) h
      exact ⟨entA a u' u + w1, w2, by omega, .cons u u' _ _ hu ha h1, h2⟩
/-- a closed chain -/
def Cl (a : List (List Int)) (n : Nat) (l : List Nat) (w : Int) : Prop := ∃ h r, l = h :: r ∧ Chn a n (l ++ [h]) w
theorem Cl.ne {a : List (List Int)} {n : Nat} {l : List Nat} {w : Int} (h : Cl a n l w) : l ≠ [] := by obtain ⟨_, _, rfl, _⟩ := h; simp
theorem Cl.lt {a : List (List Int)} {n : Nat} {l : List Nat} {w : Int} (h : Cl a n l w) : ∀ x ∈ l, x < n := by
  obtain ⟨_, _, rfl, h⟩ := h
  exact fun x hx => h.lt x (List.mem_append.2 (.inl hx))
theorem Cl.unique {a : List (List Int)} {n : Nat} {l : List Nat} {w w' : Int} (h : Cl a n l w) (h' : Cl a n l w') : w = w' := by
  obtain ⟨_, _, rfl, h⟩ := h
  obtain ⟨_, _, e, h'⟩ := h'
  cases e
  exact h.unique h'
namespace M
end M

end Go.Proofs.Ytipdgiljgbjjkaa
