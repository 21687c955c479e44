/-
  Plain proofs: the plain program of the law ends with true.
  Conditions: None beyond the given statement.
-/
import Derived.Test.YtipdgiljgbjjkaaP
namespace Go.Proofs.Ytipdgiljgbjjkaa
open Go
/-! ### plain programs: loops over a list -/
namespace M
variable {α β σ ρ : Type}
/-- rounds over the elements of a list, each with its place; a round may leave -/
def run (g : Nat → α → σ → σ ⊕ ρ) (fin : σ → ρ) : Nat → List α → σ → ρ
  | _, [], s => fin s
  | i, x :: xs, s => match g i x s with
    | .inl s' => run g fin (i + 1) xs s'
    | .inr r => r
theorem Conv_forN {l : List α} {f : Int → σ → M (σ ⊕ ρ)} (g : Nat → α → σ → σ ⊕ ρ) (fin : σ → ρ) (I : Nat → σ → Prop) (hi : Int) :
    ∀ (xs : List α) (i : Nat) (s : σ), hi = (i + xs.length : Nat) → I i s → (∀ (j : Nat) x s, xs[j]? = some x → I (i + j) s → Conv (f (i + j : Nat) s) (g (i + j) x s) ∧ ∀ s', g (i + j) x s = .inl s' → I (i + j + 1) s') →
      ∃ N, ∀ n, N ≤ n → forN hi fin f n xs.length i s = some (run g fin i xs s)
  | [], i, s, hh, _, _ => ⟨0, fun n _ => by
      have : ¬ (i : Int) < hi := by rw [hh]; simp
      simp [forN, run, this]⟩
  | x :: xs, i, s, hh, h0, H => by
    have hlt : (i : Int) < hi := by rw [hh]; simp; omega
    obtain ⟨⟨N, hN⟩, hI⟩ := H 0 x s rfl h0
    simp only [Nat.add_zero] at hN hI
    cases hg : g i x s with
    | inl s' =>
      have hi' := hI s' hg
      obtain ⟨N', hN'⟩ := Conv_forN (l := l) g fin I hi xs (i + 1) s' (by rw [hh, List.length_cons]; congr 1; omega) hi' (fun j y s hy hIs => by
        have := H (j + 1) y s (by simpa using hy) (by rw [← Nat.add_assoc, Nat.add_right_comm]; exact hIs)
        rw [show i + (j + 1) = i + 1 + j by omega] at this
        exact this)
      refine ⟨max N N', fun n hn => ?_⟩
      have h1 := hN n (by omega)
      rw [hg] at h1
      simp only [List.length_cons, forN, hlt, decide_true, cond_true, h1, run, hg]
      have := hN' n (by omega)
      simpa using this
    | inr r =>
      refine ⟨N, fun n hn => ?_⟩
      have h1 := hN n hn
      rw [hg] at h1
      simp only [List.length_cons, forN, hlt, decide_true, cond_true, h1, run, hg]
/-- a loop over a list, with an invariant -/
theorem Conv_forI {l : List α} {f : Int → σ → M (σ ⊕ ρ)} {fin : σ → ρ} {s : σ} (g : Nat → α → σ → σ ⊕ ρ) (I : Nat → σ → Prop) (hl : l.length ≤ 9223372036854775807) (h0 : I 0 s)
    (H : ∀ (i : Nat) x s, l[i]? = some x → I i s → Conv (f i s) (g i x s) ∧ ∀ s', g i x s = .inl s' → I (i + 1) s') : Conv (forI 0 (l.length : Int) fin f s) (run g fin 0 l s) := by
  obtain ⟨N, hN⟩ := Conv_forN (l := l) (f := f) g fin I (l.length : Int) l 0 s (by simp) h0 (fun j x s hx hI => by simpa using H j x s hx (by simpa using hI))
  refine ⟨N, fun n hn => ?_⟩
  have h1 : (l.length : Int) ≤ 9223372036854775807 := by omega
  simp only [forI, h1, decide_true, Bool.and_true, show (-9223372036854775808 : Int) ≤ 0 by decide, cond_true]
  have := hN n hn
  simpa using this
/-- .. without one -/
theorem Conv_forL {l : List α} {f : Int → σ → M (σ ⊕ ρ)} {fin : σ → ρ} {s : σ} (g : Nat → α → σ → σ ⊕ ρ) (hl : l.length ≤ 9223372036854775807)
    (H : ∀ (i : Nat) x s, l[i]? = some x → Conv (f i s) (g i x s)) : Conv (forI 0 (l.length : Int) fin f s) (run g fin 0 l s) :=
  Conv_forI g (fun _ _ => True) hl trivial fun i x s hx _ => ⟨H i x s hx, fun _ _ => trivial⟩
theorem Conv.of {m : M α} {r r' : α} (h : Conv m r) (e : r = r') : Conv m r' := e ▸ h
theorem Conv_ite {b : Bool} {x y : M α} {r : α} (h1 : b = true → Conv x r) (h2 : b = false → Conv y r) : Conv (ite b x y) r := by
  cases b
  · exact h2 rfl
  · exact h1 rfl
theorem Conv_ite2 {b : Bool} {x y : M α} {r s : α} (h1 : b = true → Conv x r) (h2 : b = false → Conv y s) : Conv (ite b x y) (bif b then r else s) := by
  cases b
  · exact h2 rfl
  · exact h1 rfl
theorem Conv_guard {b : Bool} (h : b = true) : Conv (guard b) () := ⟨0, fun _ _ => by simp [guard, h]⟩
theorem Conv_upd {l : List α} {i : Nat} {x : α} (h : i < l.length) : Conv (upd l i x) (l.set i x) := ⟨0, fun _ _ => by simp [upd, h]⟩
theorem Conv_get {l : List α} {i : Int} {x : α} (h0 : 0 ≤ i) (h : l[i.toNat]? = some x) : Conv (idx l i) x := ⟨0, fun _ _ => by simp [idx, h0, h]⟩
/-- a value told in both ways of a test, then the rest -/
theorem Conv_bite {b : Bool} {x y : M α} {f : α → M β} {u v : α} {r : β} (h1 : b = true → Conv x u) (h2 : b = false → Conv y v) (g : Conv (f (bif b then u else v)) r) : Conv (bind (ite b x y) f) r :=
  Conv_bind (Conv_ite2 h1 h2) g

/-! searches: a loop that leaves at the first element of a kind -/
theorem run_all (p : α → Bool) (u : Unit ⊕ ρ) : ∀ (i : Nat) (l : List α), run (ρ := Unit ⊕ ρ) (fun _ x _ => bif p x then .inl () else .inr u) (fun s => .inl s) i l () = bif l.all p then .inl () else u
  | _, [] => rfl
  | i, x :: xs => by
    simp only [run, List.all_cons]
    cases p x
    · rfl
    · simpa using run_all p u (i + 1) xs
/-- 'for .. if not p x, return v' -/
theorem Conv_all {l : List α} {f : Int → Unit → M (Unit ⊕ (Unit ⊕ ρ))} (p : α → Bool) (v : ρ) (hl : l.length ≤ 9223372036854775807) (H : ∀ (i : Nat) x, l[i]? = some x → Conv (f i ()) (bif p x then .inl () else .inr (.inr v))) :
    Conv (forI 0 (l.length : Int) (fun s => .inl s) f ()) (bif l.all p then .inl () else .inr v) :=
  (Conv_forL (fun _ x _ => bif p x then .inl () else .inr (.inr v)) hl fun i x _ hx => H i x hx).of (run_all p (.inr v) 0 l)
/-- the same, where the element's place matters to the test -/
theorem run_allI (p : Nat → α → Bool) (u : Unit ⊕ ρ) : ∀ (i : Nat) (l : List α), run (ρ := Unit ⊕ ρ) (fun j x _ => bif p j x then .inl () else .inr u) (fun s => .inl s) i l () = bif (l.zipIdx i).all (fun q => p q.2 q.1) then .inl () else u
  | _, [] => rfl
  | i, x :: xs => by
    simp only [run, List.zipIdx_cons, List.all_cons]
    cases p i x
    · rfl
    · simpa using run_allI p u (i + 1) xs
theorem Conv_allI {l : List α} {f : Int → Unit → M (Unit ⊕ (Unit ⊕ ρ))} (p : Nat → α → Bool) (v : ρ) (hl : l.length ≤ 9223372036854775807) (H : ∀ (i : Nat) x, l[i]? = some x → Conv (f i ()) (bif p i x then .inl () else .inr (.inr v))) :
    Conv (forI 0 (l.length : Int) (fun s => .inl s) f ()) (bif (l.zipIdx 0).all (fun q => p q.2 q.1) then .inl () else .inr v) :=
  (Conv_forL (fun j x _ => bif p j x then .inl () else .inr (.inr v)) hl fun i x _ hx => H i x hx).of (run_allI p (.inr v) 0 l)
/-- 'for i .. if p x, return i' -/
theorem run_find (p : α → Bool) : ∀ (i : Nat) (l : List α), run (σ := Unit) (ρ := Unit ⊕ Int) (fun j x _ => bif p x then .inr (.inr (j : Int)) else .inl ()) (fun s => .inl s) i l () = match l.findIdx? p with
    | some j => .inr ((i + j : Nat) : Int)
    | none => .inl ()
  | _, [] => rfl
  | i, x :: xs => by
    simp only [run, List.findIdx?_cons]
    cases hp : p x
    · simp only [cond_false, run_find p (i + 1) xs, Bool.false_eq_true, if_false]
      cases xs.findIdx? p with
      | none => rfl
      | some j => simp only [Option.map_some]; congr 2; omega
    · simp
theorem Conv_find {l : List α} {f : Int → Unit → M (Unit ⊕ (Unit ⊕ Int))} (p : α → Bool) (hl : l.length ≤ 9223372036854775807) (H : ∀ (i : Nat) x, l[i]? = some x → Conv (f i ()) (bif p x then .inr (.inr (i : Int)) else .inl ())) :
    Conv (forI 0 (l.length : Int) (fun s => .inl s) f ()) (match l.findIdx? p with | some j => .inr (j : Int) | none => .inl ()) :=
  (Conv_forL (fun j x _ => bif p x then .inr (.inr (j : Int)) else .inl ()) hl fun i x _ hx => H i x hx).of (by rw [run_find]; simp)
/-- sums: each round turns what has been gathered -/
theorem run_fold (g : σ → α → σ) : ∀ (i : Nat) (l : List α) (s : σ), run (fun _ x s => .inl (g s x)) (fun s => s) i l s = l.foldl g s
  | _, [], _ => rfl
  | i, x :: xs, s => by simpa [run] using run_fold g (i + 1) xs (g s x)
theorem Conv_fold {l : List α} {f : Int → σ → M (σ ⊕ σ)} {s : σ} (g : σ → α → σ) (hl : l.length ≤ 9223372036854775807) (H : ∀ (i : Nat) x s, l[i]? = some x → Conv (f i s) (.inl (g s x))) :
    Conv (forI 0 (l.length : Int) (fun s => s) f s) (l.foldl g s) :=
  (Conv_forL (fun _ x s => .inl (g s x)) hl fun i x s hx => H i x s hx).of (run_fold g 0 l s)
theorem get_set_append {l r : List α} {x y : α} : (l ++ y :: r).set l.length x = l ++ x :: r := by simp
/-- a loop that fills a list of the same length, element by element -/
theorem run_fill (g : Nat → α → β) (z : β) : ∀ (i : Nat) (l : List α) (d : List β), d.length = i →
    run (fun j x s => .inl (s.set j (g j x))) (fun s => s) i l (d ++ List.replicate l.length z) = d ++ (l.zipIdx i).map (fun q => g q.2 q.1)
  | _, [], d, _ => by simp [run]
  | i, x :: xs, d, hd => by
    subst hd
    simp only [run, List.length_cons, List.replicate_succ, get_set_append]
    have := run_fill g z (d.length + 1) xs (d ++ [g d.length x]) (by simp)
    simp only [List.append_assoc, List.singleton_append] at this
    rw [this]
    simp
theorem Conv_fill {l : List α} {f : Int → List β → M (List β ⊕ List β)} (g : Nat → α → β) (z : β) (hl : l.length ≤ 9223372036854775807)
    (H : ∀ (i : Nat) x s, l[i]? = some x → s.length = l.length → Conv (f i s) (.inl (s.set i (g i x)))) :
    Conv (forI 0 (l.length : Int) (fun s => s) f (List.replicate l.length z)) ((l.zipIdx 0).map (fun q => g q.2 q.1)) := by
  refine (Conv_forI (fun j x s => .inl (s.set j (g j x))) (fun _ s => s.length = l.length) hl (by simp) fun i x s hx hI => ⟨H i x s hx hI, fun s' e => ?_⟩).of ?_
  · cases e; simpa using hI
  · simpa using run_fill g z 0 l [] rfl
theorem zipIdx_map_fst {l : List α} {g : α → β} {i : Nat} : ((l.zipIdx i).map fun q => g q.1) = l.map g := by
  have h : List.map (g ∘ Prod.fst) (l.zipIdx i) = List.map g l := by rw [← List.map_map, List.zipIdx_map_fst]
  exact h
theorem findIdx_any {l : List α} {p : α → Bool} : (decide ((0:Int) ≤ match l.findIdx? p with | some j => (j : Int) | none => -1)) = l.any p := by
  cases h : l.findIdx? p with
  | none => rw [List.findIdx?_eq_none_iff] at h; simp; exact fun x hx => by simpa using h x hx
  | some j =>
    obtain ⟨hj, hp, _⟩ := List.findIdx?_eq_some_iff_getElem.1 h
    simp
    exact ⟨_, List.getElem_mem hj, hp⟩
end M
def finB (x : Int) : Bool := decide (-1000000 ≤ x) && decide (x ≤ 1000000)
def valB (x : Int) : Bool := x == (-1000000000000000) || finB x
theorem spec_l01In_ok (x lo hi : Int) : M.Conv (spec_l01In x lo hi) (decide (lo ≤ x) && decide (x ≤ hi)) := M.Conv_ret _
theorem impl_within_ok (x lo hi : Int) : M.Conv (impl_within x lo hi) (decide (lo ≤ x) && decide (x ≤ hi)) := M.Conv_ret _
/-- 'slices.ContainsFunc', behind 'slices.IndexFunc' -/
theorem contains_ok {α : Type} {l : List α} {f : Int → Unit → M (Unit ⊕ (Unit ⊕ Int))} (p : α → Bool) (hl : l.length ≤ 9223372036854775807) (H : ∀ (i : Nat) x, l[i]? = some x → M.Conv (f i ()) (bif p x then .inr (.inr (i : Int)) else .inl ())) :
    M.Conv (M.bind (M.bind (M.forI 0 (l.length : Int) (fun s => .inl s) f ()) (fun x1 => M.cont x1 (fun _ => M.ret (-1)) (fun r => M.ret r))) (fun x1 => M.ret (decide (0 ≤ x1)))) (l.any p) := by
  rw [← M.findIdx_any]
  refine M.Conv_bind (M.Conv_bind (M.Conv_find p hl H) ?_) (M.Conv_ret _)
  cases l.findIdx? p <;> exact M.Conv_ret _
theorem any_not {α : Type} {l : List α} {p : α → Bool} : (!l.any fun x => !p x) = l.all p := by
  induction l with
  | nil => rfl
  | cons x xs ih => simp only [List.any_cons, List.all_cons, Bool.not_or, Bool.not_not, ih]
theorem mx_eq (a b : Int) : mx a b = max a b := by unfold mx; split <;> omega
theorem finB_bd {x : Int} (h : finB x = true) : -1000000 ≤ x ∧ x ≤ 1000000 := by simpa [finB] using h
theorem val_ne {x : Int} (h : valB x = true) (hn : (x == (-1000000000000000)) = false) : finB x = true := by simpa [valB, hn] using h
/-- two programs, one answer -/
def Two {α : Type} (m m' : M α) (Post : α → Prop) : Prop := ∃ r, M.Conv m r ∧ M.Conv m' r ∧ Post r
theorem Two.mk {α : Type} {m m' : M α} {Post : α → Prop} {r : α} (h : M.Conv m r) (h' : M.Conv m' r) (p : Post r) : Two m m' Post := ⟨r, h, h', p⟩
theorem Two.ret {α : Type} {Post : α → Prop} (r : α) (p : Post r) : Two (M.ret r) (M.ret r) Post := ⟨r, M.Conv_ret _, M.Conv_ret _, p⟩
theorem Two.bind {α β : Type} {m m' : M α} {f f' : α → M β} {P : α → Prop} {Q : β → Prop} (h : Two m m' P) (g : ∀ x, P x → Two (f x) (f' x) Q) : Two (M.bind m f) (M.bind m' f') Q := by
  obtain ⟨x, h1, h2, p⟩ := h
  obtain ⟨r, g1, g2, q⟩ := g x p
  exact ⟨r, M.Conv_bind h1 g1, M.Conv_bind h2 g2, q⟩
theorem Two.bindC {α α' β : Type} {m : M α} {m' : M α'} {f : α → M β} {f' : α' → M β} {Q : β → Prop} {x : α} {x' : α'} (h : M.Conv m x) (h' : M.Conv m' x') (g : Two (f x) (f' x') Q) : Two (M.bind m f) (M.bind m' f') Q := by
  obtain ⟨r, g1, g2, q⟩ := g
  exact ⟨r, M.Conv_bind h g1, M.Conv_bind h' g2, q⟩
theorem Two.left {α β : Type} {m : M α} {m' : M β} {f : α → M β} {Q : β → Prop} {x : α} (h : M.Conv m x) (g : Two (f x) m' Q) : Two (M.bind m f) m' Q := by
  obtain ⟨r, g1, g2, q⟩ := g
  exact ⟨r, M.Conv_bind h g1, g2, q⟩
theorem Two.right {α β : Type} {m : M α} {m' : M β} {f : α → M β} {Q : β → Prop} {x : α} (h : M.Conv m x) (g : Two m' (f x) Q) : Two m' (M.bind m f) Q := by
  obtain ⟨r, g1, g2, q⟩ := g
  exact ⟨r, g1, M.Conv_bind h g2, q⟩
theorem Two.ite {α : Type} {b : Bool} {x y x' y' : M α} {Q : α → Prop} (h1 : b = true → Two x x' Q) (h2 : b = false → Two y y' Q) : Two (M.ite b x y) (M.ite b x' y') Q := by
  cases b
  · exact h2 rfl
  · exact h1 rfl
theorem Two.iteL {α : Type} {b : Bool} {x y m' : M α} {Q : α → Prop} (h1 : b = true → Two x m' Q) (h2 : b = false → Two y m' Q) : Two (M.ite b x y) m' Q := by
  cases b
  · exact h2 rfl
  · exact h1 rfl
theorem Two.iteR {α : Type} {b : Bool} {x y m' : M α} {Q : α → Prop} (h1 : b = true → Two m' x Q) (h2 : b = false → Two m' y Q) : Two m' (M.ite b x y) Q := by
  cases b
  · exact h2 rfl
  · exact h1 rfl
theorem Two.mono {α : Type} {m m' : M α} {P Q : α → Prop} (h : Two m m' P) (hp : ∀ r, P r → Q r) : Two m m' Q := let ⟨r, a, b, c⟩ := h; ⟨r, a, b, hp r c⟩
theorem two_forN {σ ρ : Type} {hi : Int} {fin : σ → ρ} {f f' : Int → σ → M (σ ⊕ ρ)} {Post : ρ → Prop} (I : Int → σ → Prop) (lo : Int)
    (round : ∀ i s, lo ≤ i → i < hi → I i s → Two (f i s) (f' i s) fun y => (∃ s', y = .inl s' ∧ I (i + 1) s') ∨ (∃ r, y = .inr r ∧ Post r)) :
    ∀ (d : Nat) (i : Int) (s : σ), (hi - i).toNat = d → lo ≤ i → (i ≤ hi ∨ i = lo) → I i s → (∀ i s, (i = hi ∨ i = lo ∧ hi ≤ lo) → I i s → Post (fin s)) → ∃ r, (∃ N, ∀ n, N ≤ n → M.forN hi fin f n d i s = some r) ∧ (∃ N, ∀ n, N ≤ n → M.forN hi fin f' n d i s = some r) ∧ Post r
  | 0, i, s, hd, h1, h2, hI, fi => by
    have hge : ¬ i < hi := by omega
    exact ⟨fin s, ⟨0, fun n _ => by simp [M.forN, hge]⟩, ⟨0, fun n _ => by simp [M.forN, hge]⟩, fi i s (by omega) hI⟩
  | d + 1, i, s, hd, h1, h2, hI, fi => by
    have hlt : i < hi := by omega
    obtain ⟨y, ⟨N, hy⟩, ⟨N', hy'⟩, hc⟩ := round i s h1 hlt hI
    rcases hc with ⟨s', rfl, hI'⟩ | ⟨r, rfl, hp⟩
    · obtain ⟨r, ⟨N1, h3⟩, ⟨N2, h4⟩, hp⟩ := two_forN (fin := fin) I lo round d (i + 1) s' (by omega) (by omega) (by omega) hI' fi
      exact ⟨r, ⟨max N N1, fun n hn => by simp [M.forN, hlt, hy n (by omega), h3 n (by omega)]⟩, ⟨max N' N2, fun n hn => by simp [M.forN, hlt, hy' n (by omega), h4 n (by omega)]⟩, hp⟩
    · exact ⟨r, ⟨N, fun n hn => by simp [M.forN, hlt, hy n hn]⟩, ⟨N', fun n hn => by simp [M.forN, hlt, hy' n hn]⟩, hp⟩
theorem Two.for {σ ρ : Type} {lo hi : Int} {fin : σ → ρ} {f f' : Int → σ → M (σ ⊕ ρ)} {s : σ} {Post : ρ → Prop} (I : Int → σ → Prop) (hlo : -9223372036854775808 ≤ lo) (hhi : hi ≤ 9223372036854775807) (h0 : I lo s)
    (round : ∀ i s, lo ≤ i → i < hi → I i s → Two (f i s) (f' i s) fun y => (∃ s', y = .inl s' ∧ I (i + 1) s') ∨ (∃ r, y = .inr r ∧ Post r)) (done : ∀ i s, (i = hi ∨ i = lo ∧ hi ≤ lo) → I i s → Post (fin s)) :
    Two (M.forI lo hi fin f s) (M.forI lo hi fin f' s) Post := by
  obtain ⟨r, ⟨N, h1⟩, ⟨N', h2⟩, hp⟩ := two_forN (fin := fin) I lo round _ lo s rfl (Int.le_refl _) (.inr rfl) h0 done
  exact ⟨r, ⟨N, fun n hn => by simp [M.forI, hlo, hhi, h1 n hn]⟩, ⟨N', fun n hn => by simp [M.forI, hlo, hhi, h2 n hn]⟩, hp⟩
def timesI (a b : Int) : Int := bif (a == (-1000000000000000)) || (b == (-1000000000000000)) then (-1000000000000000) else w64 (a + b)
theorem Conv_fillN {β : Type} {n : Nat} {f : Int → List β → M (List β ⊕ List β)} (g : Nat → β) (z : β) (hl : n ≤ 9223372036854775807)
    (H : ∀ (i : Nat) (s : List β), i < n → s.length = n → M.Conv (f i s) (.inl (s.set i (g i)))) : M.Conv (M.forI 0 (n : Int) (fun s => s) f (List.replicate n z)) ((List.range n).map g) := by
  have h := M.Conv_fill (l := List.replicate n z) (f := f) (fun i _ => g i) z (by simpa using hl) (fun i x s hx hs => H i s (by simpa using (List.getElem?_eq_some_iff.1 hx).1) (by simpa using hs))
  simp only [List.length_replicate] at h
  refine h.of (List.ext_getElem? fun i => ?_)
  by_cases hi : i < n
  · simp [hi]
  · rw [List.getElem?_eq_none (by simp; omega), List.getElem?_eq_none (by simp; omega)]
def okTPlace (p : TPlace) : Prop := inI64 p.From ∧ inI64 p.To ∧ inI64 p.Delay ∧ inI64 p.Tokens
def okTGraph (g : TGraph) : Prop := inI64 g.Events ∧ fitL okTPlace g.Places
def smP (l : List TPlace) : Prop := l.length ≤ 1099511627
def smG (g : TGraph) : Prop := smP g.Places
theorem szG_ok {g : TGraph} (h : okTGraph g) : ∃ z, M.Conv (laws_szEventGraph g 1048576) z ∧ (decide (z < 0) = false → smG g) := by
  have hl := h.2.1
  unfold laws_szEventGraph laws_szPlaceS
  have e : w64 (1048576 - (g.Places.length : Int)) = 1048576 - g.Places.length := w64_eq _ (by omega)
  rw [e]
  by_cases h1 : (1048576 : Int) - g.Places.length < 0
  · refine ⟨-1, M.Conv_bind (x := -1) (M.Conv_ite (fun _ => M.Conv_ret _) (fun q => by have := of_decide_eq_false q; omega)) (M.Conv_ite (fun _ => M.Conv_ret _) (fun q => by simp at q)), fun q => by simp at q⟩
  · refine ⟨1048576 - (g.Places.length : Int), M.Conv_bind (x := 1048576 - (g.Places.length : Int)) (M.Conv_ite (fun q => absurd (of_decide_eq_true q) h1) (fun _ => M.Conv_ret _)) (M.Conv_ite (fun q => absurd (of_decide_eq_true q) h1) (fun _ => M.Conv_ret _)), fun _ => ?_⟩
    simp only [smG, smP]; omega
theorem toPlace_ok {p : TPlace} : M.Conv (laws_toPlace p) p := M.Conv_ret _
theorem toPlaceS_ok {a : List TPlace} (h : smP a) : M.Conv (laws_toPlaceS a) a := by
  unfold smP at h
  unfold laws_toPlaceS
  refine M.Conv_bind (M.Conv_make (by omega) (by omega)) ?_
  refine M.Conv_bind (x := a) (((M.Conv_fill (l := a) (f := _) (fun _ x => x) _ (by omega) fun i x s hx hs => ?_)).of ?_) (M.Conv_ret _)
  · have hi := (List.getElem?_eq_some_iff.1 hx).1
    refine M.Conv_bind (M.Conv_get (by omega) (by simpa using hx)) (M.Conv_bind toPlace_ok ?_)
    refine M.Conv_bind (M.Conv_get (x := s[i]) (by omega) (by simp [show i < s.length by omega])) ?_
    exact M.Conv_bind (M.Conv_upd (by omega)) (M.Conv_ret _)
  · exact M.zipIdx_map_fst.trans (List.map_id' _)
theorem toG_ok {g : TGraph} (h : smG g) : M.Conv (laws_toEventGraph g) g := M.Conv_bind (toPlaceS_ok h) (M.Conv_ret _)
theorem eqPlace_refl {p : TPlace} : M.Conv (laws_eqPlace p p) true := by
  unfold laws_eqPlace
  refine M.Conv_ite (fun q => by simp at q) (fun _ => M.Conv_ite (fun q => by simp at q) (fun _ => M.Conv_ite (fun q => by simp at q) (fun _ => M.Conv_ite (fun q => by simp at q) (fun _ => M.Conv_ret _))))
theorem eqPlaceS_refl {a : List TPlace} (h : smP a) : M.Conv (laws_eqPlaceS a a) true := by
  unfold smP at h
  unfold laws_eqPlaceS
  refine M.Conv_ite (fun q => by simp at q) (fun _ => M.Conv_bind (M.Conv_all (fun _ => true) false (by omega) fun i x hx => ?_) ?_)
  case refine_2 => rw [show (a.all fun _ => true) = true by simp]; exact M.Conv_ret _
  have hg : M.Conv (M.idx a i) x := M.Conv_get (by omega) (by simpa using hx)
  exact M.Conv_bind hg (M.Conv_bind hg (M.Conv_bind eqPlace_refl (M.Conv_ite (fun q => by simp at q) (fun _ => M.Conv_ret _))))
theorem eqG_refl {g : TGraph} (h : smG g) : M.Conv (laws_eqEventGraph g g) true := by
  unfold laws_eqEventGraph
  refine M.Conv_ite (fun q => by simp at q) (fun _ => M.Conv_bind (eqPlaceS_refl h) (M.Conv_ite (fun q => by simp at q) (fun _ => M.Conv_ret _)))
theorem Conv_and {b v : Bool} {m : M Bool} (h : b = true → M.Conv m v) : M.Conv (M.ite b (M.bind m (fun x => M.ret x)) (M.ret false)) (b && v) := by
  refine M.Conv_ite (fun q => ?_) (fun q => ?_)
  · rw [q]; exact M.Conv_bind (h q) (M.Conv_ret _)
  · rw [q]; exact M.Conv_ret _
def inB (x lo hi : Int) : Bool := decide (lo ≤ x) && decide (x ≤ hi)
def placeB (e : Int) (p : TPlace) : Bool := ((inB p.From 0 (w64 (e - 1)) && inB p.To 0 (w64 (e - 1))) && inB p.Delay 0 1000) && inB p.Tokens 0 5
theorem spec_l11Place_ok (p : TPlace) (e : Int) : M.Conv (spec_l11Place p e) (placeB e p) :=
  M.Conv_bind (spec_l01In_ok _ _ _) (M.Conv_bind (Conv_and fun _ => spec_l01In_ok _ _ _) (M.Conv_bind (Conv_and fun _ => spec_l01In_ok _ _ _) (M.Conv_bind (Conv_and fun _ => spec_l01In_ok _ _ _) (M.Conv_ret _))))
theorem impl_isEvent_ok (g : TGraph) (e : Int) : M.Conv (impl_isEvent g e) (inB e 0 (w64 (g.Events - 1))) := M.Conv_bind (impl_within_ok _ _ _) (M.Conv_ret _)
theorem impl_isPlace_ok (g : TGraph) (p : TPlace) : M.Conv (impl_isPlace g p) (placeB g.Events p) :=
  M.Conv_bind (impl_isEvent_ok _ _) (M.Conv_bind (Conv_and fun _ => impl_isEvent_ok _ _) (M.Conv_bind (Conv_and fun _ => impl_within_ok _ _ _) (M.Conv_bind (Conv_and fun _ => impl_within_ok _ _ _) (M.Conv_ret _))))
def graphB (g : TGraph) : Bool := (inB g.Events 1 10 && decide (g.Places.length ≤ 30)) && g.Places.all (placeB g.Events)
/-- 'for i < len(l)', the counter a variable; a round may leave -/
def runO {α ρ : Type} (g : Nat → α → Option ρ) (e : ρ) : Nat → List α → ρ
  | _, [] => e
  | i, x :: xs => match g i x with | none => runO g e (i + 1) xs | some r => r
theorem Conv_while {α ρ : Type} {l : List α} {f : Int → M (Int ⊕ ρ)} (g : Nat → α → Option ρ) (e : ρ) (step : ∀ (i : Nat) x, l[i]? = some x → M.Conv (f i) (match g i x with | none => .inl ((i : Int) + 1) | some r => .inr r)) (stop : M.Conv (f (l.length : Int)) (.inr e)) :
    M.Conv (M.loop f 0) (runO g e 0 l) := by
  have key : ∀ (xs : List α) (i : Nat), (∀ (j : Nat) x, xs[j]? = some x → M.Conv (f (i + j : Nat)) (match g (i + j) x with | none => .inl (((i + j : Nat) : Int) + 1) | some r => .inr r)) → M.Conv (f (i + xs.length : Nat)) (.inr e) →
      ∃ N m0, ∀ n, N ≤ n → ∀ m, m0 ≤ m → M.loopN f n m (i : Int) = some (runO g e i xs) := by
    intro xs
    induction xs with
    | nil =>
      intro i _ ⟨N, h⟩
      refine ⟨N, 1, fun n hn m hm => ?_⟩
      obtain ⟨m, rfl⟩ : ∃ q, m = q + 1 := ⟨m - 1, by omega⟩
      have := h n hn
      simp only [List.length_nil, Nat.add_zero] at this
      simp [M.loopN, this, runO]
    | cons x xs ih =>
      intro i hs hst
      obtain ⟨N, h⟩ := hs 0 x rfl
      simp only [Nat.add_zero] at h
      cases hg : g i x with
      | none =>
        obtain ⟨N', m0, h'⟩ := ih (i + 1) (fun j y hy => by have := hs (j + 1) y (by simpa using hy); rw [show i + (j + 1) = i + 1 + j by omega] at this; exact this) (by rw [show i + 1 + xs.length = i + (x :: xs).length by simp; omega]; exact hst)
        refine ⟨max N N', m0 + 1, fun n hn m hm => ?_⟩
        obtain ⟨m, rfl⟩ : ∃ q, m = q + 1 := ⟨m - 1, by omega⟩
        have h1 := h n (by omega)
        rw [hg] at h1
        simp only [M.loopN, h1, runO, hg]
        exact h' n (by omega) m (by omega)
      | some r =>
        refine ⟨N, 1, fun n hn m hm => ?_⟩
        obtain ⟨m, rfl⟩ : ∃ q, m = q + 1 := ⟨m - 1, by omega⟩
        have h1 := h n hn
        rw [hg] at h1
        simp only [M.loopN, h1, runO, hg]
  obtain ⟨N, m0, h⟩ := key l 0 (fun j x hx => by simpa using step j x hx) (by simpa using stop)
  exact ⟨max N m0, fun n hn => h n (by omega) n (by omega)⟩
theorem runO_all {α ρ : Type} (p : α → Bool) (r e : ρ) : ∀ (l : List α) (i : Nat), runO (fun _ x => bif p x then none else some r) e i l = bif l.all p then e else r
  | [], _ => rfl
  | x :: xs, i => by
    simp only [runO, List.all_cons]
    cases p x with
    | true => simpa using runO_all p r e xs (i + 1)
    | false => rfl
theorem spec_IsEventGraph_ok {g : TGraph} (hl : g.Places.length ≤ 9223372036854775806) : M.Conv (spec_IsEventGraph g) (graphB g) := by
  unfold spec_IsEventGraph
  refine M.Conv_bind ((Conv_while (l := g.Places) (fun _ p => bif placeB g.Events p then none else some (.inr false)) (.inl (g.Places.length : Int)) (fun i p hp => ?_) ?_).of (runO_all _ _ _ _ _)) ?_
  · have hi := (List.getElem?_eq_some_iff.1 hp).1
    refine M.Conv_ite (fun _ => M.Conv_bind (M.Conv_get (by omega) (by simpa using hp)) (M.Conv_bind (spec_l11Place_ok _ _) (M.Conv_ite (fun q => ?_) (fun q => ?_)))) (fun q => by have := of_decide_eq_false q; omega)
    · simp only [Bool.not_eq_true'] at q; rw [q]; exact M.Conv_ret _
    · simp only [Bool.not_eq_false'] at q; rw [q]; exact (M.Conv_ret _).of (by rw [w64_eq _ (by omega)]; rfl)
  · exact M.Conv_ite (fun q => by have := of_decide_eq_true q; omega) (fun _ => M.Conv_ret _)
  · cases hb : g.Places.all (placeB g.Events) with
    | false => exact (M.Conv_ret _).of (by simp [graphB, hb])
    | true =>
      show M.Conv (M.bind (spec_l01In g.Events 1 10) (fun x4 => M.ret (x4 && (decide ((g.Places.length : Int) ≤ 30))))) _
      refine M.Conv_bind (spec_l01In_ok _ _ _) ((M.Conv_ret _).of ?_)
      simp only [graphB, hb, inB, Bool.and_true]
      rw [decide_eq_decide.2 (show (g.Places.length : Int) ≤ 30 ↔ g.Places.length ≤ 30 by omega)]
theorem impl_IsEventGraph_ok {g : TGraph} (hl : g.Places.length ≤ 9223372036854775806) : M.Conv (impl_IsEventGraph g) (graphB g) := by
  unfold impl_IsEventGraph slices_ContainsFunc_Place_F_impl_IsEventGraph_1 slices_IndexFunc_Place_F_impl_IsEventGraph_1
  refine M.Conv_bind (impl_within_ok _ _ _) (M.Conv_bind (x := graphB g) ?_ (M.Conv_ret _))
  have e : ((decide (1 ≤ g.Events) && decide (g.Events ≤ 10)) && decide ((g.Places.length : Int) ≤ 30)) = (inB g.Events 1 10 && decide (g.Places.length ≤ 30)) := by
    rw [decide_eq_decide.2 (show (g.Places.length : Int) ≤ 30 ↔ g.Places.length ≤ 30 by omega)]; rfl
  rw [e]
  refine M.Conv_ite (fun q => ?_) (fun q => (M.Conv_ret _).of (by simp [graphB, q]))
  refine M.Conv_bind (contains_ok (fun p => !placeB g.Events p) (by omega) fun i p hp => ?_) ((M.Conv_ret _).of ?_)
  · refine M.Conv_bind (M.Conv_get (by omega) (by simpa using hp)) (M.Conv_bind (x := !placeB g.Events p) (M.Conv_bind (impl_isPlace_ok _ _) (M.Conv_ret _)) ?_)
    cases placeB g.Events p <;> exact M.Conv_ret _
  · rw [any_not]; simp [graphB, q]
def widthN (a : List (List Int)) : Nat := (a.headD []).length
def matB (a : List (List Int)) : Bool := (decide (1 ≤ a.length) && decide (a.length ≤ 10)) && ((decide (1 ≤ widthN a) && decide (widthN a ≤ 10)) && a.all fun r => decide (r.length = widthN a) && r.all valB)
/-- a matrix of w columns -/
structure Mat (a : List (List Int)) (w : Nat) : Prop where
  rows : 1 ≤ a.length ∧ a.length ≤ 10
  cols : 1 ≤ w ∧ w ≤ 10
  row : ∀ r ∈ a, r.length = w ∧ ∀ x ∈ r, valB x = true
theorem Mat.head {a : List (List Int)} {w : Nat} (h : Mat a w) : ∃ r, a[0]? = some r ∧ r.length = w := by
  have := h.rows
  exact ⟨a[0], List.getElem?_eq_getElem (by omega), (h.row _ (List.getElem_mem (by omega))).1⟩
def foldI {α σ : Type} (g : Nat → α → σ → σ) : Nat → List α → σ → σ
  | _, [], s => s
  | i, x :: xs, s => foldI g (i + 1) xs (g i x s)
theorem val_cases {x : Int} (h : valB x = true) : x = -1000000000000000 ∨ (-1000000 ≤ x ∧ x ≤ 1000000) := by
  cases hb : (x == (-1000000000000000)) with
  | true => left; simpa using hb
  | false => right; exact finB_bd (val_ne h hb)
theorem get_row {a : List (List Int)} {i : Nat} {row : List Int} (h : a[i]? = some row) : M.Conv (M.idx a (i : Int)) row := M.Conv_get (by omega) (by simpa using h)
def dotL (x row : List Int) : Int := foldI (fun j v s => mx s (timesI v ((x[j]?).getD 0))) 0 row (-1000000000000000)
theorem Conv_forV {σ : Type} {n : Nat} {f : Int → σ → M (σ ⊕ σ)} (val : Nat → σ) (hn : n ≤ 9223372036854775807) (h : ∀ i, i < n → M.Conv (f i (val i)) (.inl (val (i + 1)))) : M.Conv (M.forI 0 (n : Int) (fun s => s) f (val 0)) (val n) := by
  have := M.Conv_forI (l := List.range n) (f := f) (fin := fun s => s) (s := val 0) (ρ := σ) (fun i _ _ => .inl (val (i + 1))) (fun i s => s = val i) (by simpa using hn) rfl (fun i x s hx hs => by
    subst hs
    have hi := (List.getElem?_eq_some_iff.1 hx).1
    exact ⟨h i (by simpa using hi), fun s' e => by cases e; rfl⟩)
  simp only [List.length_range] at this
  refine this.of ?_
  have run : ∀ (m i : Nat), M.run (σ := σ) (ρ := σ) (fun i (_ : Nat) _ => .inl (val (i + 1))) (fun s => s) i (List.range m) (val i) = val (i + m) := by
    have g : ∀ (l : List Nat) (i : Nat), M.run (σ := σ) (ρ := σ) (fun i (_ : Nat) _ => .inl (val (i + 1))) (fun s => s) i l (val i) = val (i + l.length) := by
      intro l
      induction l with
      | nil => intro i; rfl
      | cons x xs ih => intro i; simp only [M.run, List.length_cons]; rw [ih (i + 1)]; congr 1; omega
    intro m i
    rw [g, List.length_range]
  simpa using run n 0
def ConvL {σ ρ : Type} (f : σ → M (σ ⊕ ρ)) (s : σ) (r : ρ) : Prop := ∃ N m0, ∀ n, N ≤ n → ∀ m, m0 ≤ m → M.loopN f n m s = some r
theorem ConvL.conv {σ ρ : Type} {f : σ → M (σ ⊕ ρ)} {s : σ} {r : ρ} (h : ConvL f s r) : M.Conv (M.loop f s) r := by
  obtain ⟨N, m0, h⟩ := h
  exact ⟨max N m0, fun n hn => h n (by omega) n (by omega)⟩
theorem ConvL.step {σ ρ : Type} {f : σ → M (σ ⊕ ρ)} {s s' : σ} {r : ρ} (h1 : M.Conv (f s) (.inl s')) (h : ConvL f s' r) : ConvL f s r := by
  obtain ⟨N, h1⟩ := h1
  obtain ⟨N', m0, h⟩ := h
  refine ⟨max N N', m0 + 1, fun n hn m hm => ?_⟩
  obtain ⟨m, rfl⟩ : ∃ q, m = q + 1 := ⟨m - 1, by omega⟩
  simp only [M.loopN, h1 n (by omega)]
  exact h n (by omega) m (by omega)
theorem ConvL.stop {σ ρ : Type} {f : σ → M (σ ⊕ ρ)} {s : σ} {r : ρ} (h1 : M.Conv (f s) (.inr r)) : ConvL f s r := by
  obtain ⟨N, h1⟩ := h1
  refine ⟨N, 1, fun n hn m hm => ?_⟩
  obtain ⟨m, rfl⟩ : ∃ q, m = q + 1 := ⟨m - 1, by omega⟩
  simp only [M.loopN, h1 n hn]
def entA (a : List (List Int)) (i j : Nat) : Int := (((a[i]?).getD [])[j]?).getD 0
def tab {α : Type} (n : Nat) (h : Nat → α) : List α := (List.range n).map h
theorem tab_len {α : Type} (n : Nat) (h : Nat → α) : (tab n h).length = n := by simp [tab]
theorem tab_get {α : Type} {n i : Nat} {h : Nat → α} (hi : i < n) : (tab n h)[i]? = some (h i) := by simp [tab, List.getElem?_range hi]
theorem tab_none {α : Type} {n i : Nat} {h : Nat → α} (hi : n ≤ i) : (tab n h)[i]? = none := List.getElem?_eq_none (by rw [tab_len]; exact hi)
theorem tab_ext {α : Type} {n : Nat} {h : Nat → α} {l : List α} (hl : l.length = n) (e : ∀ i, i < n → l[i]? = some (h i)) : l = tab n h := by
  apply List.ext_getElem?
  intro i
  by_cases hi : i < n
  · rw [e i hi, tab_get hi]
  · rw [tab_none (by omega), List.getElem?_eq_none (by omega)]
theorem tab_congr {α : Type} {n : Nat} {h g : Nat → α} (e : ∀ i, i < n → h i = g i) : tab n h = tab n g := by
  refine tab_ext (tab_len _ _) fun i hi => ?_
  rw [tab_get hi, e i hi]
theorem tab_set {α : Type} {n i : Nat} {h g : Nat → α} {v : α} (hv : v = g i) (e : ∀ p, p < n → p ≠ i → h p = g p) : (tab n h).set i v = tab n g := by
  refine tab_ext (by rw [List.length_set, tab_len]) fun p hp => ?_
  rw [List.getElem?_set]
  by_cases q : i = p
  · subst q; rw [if_pos rfl, if_pos (by rw [tab_len]; exact hp), hv]
  · rw [if_neg q, tab_get hp, e p hp (fun c => q c.symm)]
theorem tab_rep {α : Type} (n : Nat) (z : α) : List.replicate n z = tab n (fun _ => z) := tab_ext (by simp) fun i hi => by rw [List.getElem?_replicate, if_pos hi]
theorem tab_snoc {α : Type} (n : Nat) (h : Nat → α) : tab n h ++ [h n] = tab (n + 1) h := by simp [tab, List.range_succ]
theorem idx_tab {α : Type} {n i : Nat} {h : Nat → α} (hi : i < n) : M.Conv (M.idx (tab n h) (i : Int)) (h i) := M.Conv_idx (tab_get hi)
def matF (m n : Nat) (f : Nat → Nat → Int) : List (List Int) := tab m fun i => tab n (f i)
theorem matF_len (m n : Nat) (f : Nat → Nat → Int) : (matF m n f).length = m := tab_len _ _
theorem matF_congr {m n : Nat} {f g : Nat → Nat → Int} (e : ∀ i j, i < m → j < n → f i j = g i j) : matF m n f = matF m n g := tab_congr fun i hi => tab_congr fun j hj => e i j hi hj
structure Shp (a : List (List Int)) (w : Nat) : Prop where
  rows : 1 ≤ a.length ∧ a.length ≤ 10
  cols : 1 ≤ w ∧ w ≤ 10
  row : ∀ r ∈ a, r.length = w
theorem Mat.shp {a : List (List Int)} {w : Nat} (hm : Mat a w) : Shp a w := ⟨hm.rows, hm.cols, fun r hr => (hm.row r hr).1⟩
theorem entA_matF {m n i j : Nat} {f : Nat → Nat → Int} (hi : i < m) (hj : j < n) : entA (matF m n f) i j = f i j := by
  simp only [entA, matF, tab_get hi, Option.getD_some, tab_get hj]
theorem shp_of {m n : Nat} {f : Nat → Nat → Int} (h1 : 1 ≤ m ∧ m ≤ 10) (h2 : 1 ≤ n ∧ n ≤ 10) : Shp (matF m n f) n := by
  refine ⟨by rw [matF_len]; exact h1, h2, fun r hr => ?_⟩
  simp only [matF, tab, List.mem_map, List.mem_range] at hr
  obtain ⟨i, hi, rfl⟩ := hr
  simp
theorem ent_read {a : List (List Int)} {w i j : Nat} (hm : Shp a w) (hi : i < a.length) (hj : j < w) : ∃ r, M.Conv (M.idx a (i : Int)) r ∧ r.length = w ∧ M.Conv (M.idx r (j : Int)) (entA a i j) := by
  have hr : a[i]? = some a[i] := List.getElem?_eq_getElem hi
  have hl := hm.row _ (List.mem_of_getElem? hr)
  have h2 : a[i][j]? = some (a[i][j]'(by omega)) := List.getElem?_eq_getElem _
  refine ⟨_, get_row hr, hl, (M.Conv_idx h2).of ?_⟩
  simp only [entA, hr, Option.getD_some, h2]
theorem spec_l02Bottom_ok {m n : Nat} (hm : m ≤ 1048576) (hn : n ≤ 1048576) : M.Conv (spec_l02Bottom (m : Int) (n : Int)) (matF m n fun _ _ => -1000000000000000) := by
  unfold spec_l02Bottom
  refine M.Conv_bind (Conv_forV (fun i => tab i fun _ => tab n fun _ => (-1000000000000000 : Int)) (by omega) fun i hi => ?_) (M.Conv_ret _)
  refine M.Conv_bind (Conv_forV (fun j => tab j fun _ => (-1000000000000000 : Int)) (by omega) fun j hj => ?_) ?_
  · exact M.Conv_bind (M.Conv_app (by simp [tab_len]; omega)) ((M.Conv_ret _).of (congrArg Sum.inl (tab_snoc _ _)))
  · exact M.Conv_bind (M.Conv_app (by simp [tab_len]; omega)) ((M.Conv_ret _).of (congrArg Sum.inl (tab_snoc i _)))
/-- one entry set -/
theorem matF_set {m n i j : Nat} {f g : Nat → Nat → Int} (e : ∀ p q, p < m → q < n → ¬(p = i ∧ q = j) → f p q = g p q) : (matF m n f).set i ((tab n (f i)).set j (g i j)) = matF m n g := by
  by_cases hi : i < m
  · refine tab_set (tab_set rfl fun q hq hne => e i q hi hq (by omega)) fun p hp hne => tab_congr fun q hq => e p q hp hq (by omega)
  · rw [List.set_eq_of_length_le (by rw [matF_len]; omega)]
    exact matF_congr fun p q hp hq => e p q hp hq (by omega)
theorem matB_shp {a : List (List Int)} {w : Nat} (h : Shp a w) : matB a = a.all fun r => r.all valB := by
  have h1 := h.rows
  have h2 := h.cols
  have hw : widthN a = w := by
    unfold widthN
    cases a with
    | nil => simp at h1
    | cons r rs => exact h.row r (by simp)
  unfold matB
  rw [hw, decide_eq_true h1.1, decide_eq_true h1.2, decide_eq_true h2.1, decide_eq_true h2.2]
  simp only [Bool.true_and]
  rw [Bool.eq_iff_iff, List.all_eq_true, List.all_eq_true]
  refine ⟨fun H r hr => ?_, fun H r hr => ?_⟩
  · have := H r hr; simp only [Bool.and_eq_true] at this; exact this.2
  · rw [decide_eq_true (h.row r hr), Bool.true_and]; exact H r hr
def colL (b : List (List Int)) (i : Nat) : List Int := tab b.length fun j => entA b j i
theorem Conv_or {b v : Bool} {m : M Bool} (h : b = false → M.Conv m v) : M.Conv (M.ite b (M.ret true) m) (b || v) := by
  cases b with
  | true => exact M.Conv_ite (fun _ => M.Conv_ret _) (fun t => by simp at t)
  | false => exact M.Conv_ite (fun t => by simp at t) (fun _ => h rfl)
def Rel {α β : Type} (m : M α) (m' : M β) (Q : α → β → Prop) : Prop := ∃ r r', M.Conv m r ∧ M.Conv m' r' ∧ Q r r'
theorem Rel.of {α β : Type} {m : M α} {m' : M β} {Q : α → β → Prop} {r : α} {r' : β} (h : M.Conv m r) (h' : M.Conv m' r') (q : Q r r') : Rel m m' Q := ⟨r, r', h, h', q⟩
theorem Rel.bind {α β γ δ : Type} {m : M α} {m' : M β} {f : α → M γ} {f' : β → M δ} {P : α → β → Prop} {Q : γ → δ → Prop} (h : Rel m m' P) (g : ∀ x x', P x x' → Rel (f x) (f' x') Q) : Rel (M.bind m f) (M.bind m' f') Q := by
  obtain ⟨x, x', h1, h2, p⟩ := h
  obtain ⟨r, r', g1, g2, q⟩ := g x x' p
  exact ⟨r, r', M.Conv_bind h1 g1, M.Conv_bind h2 g2, q⟩
theorem Rel.left {α γ δ : Type} {m : M α} {f : α → M γ} {m' : M δ} {Q : γ → δ → Prop} {x : α} (h : M.Conv m x) (g : Rel (f x) m' Q) : Rel (M.bind m f) m' Q := by
  obtain ⟨r, r', g1, g2, q⟩ := g
  exact ⟨r, r', M.Conv_bind h g1, g2, q⟩
theorem Rel.right {α γ δ : Type} {m : M α} {f : α → M γ} {m' : M δ} {Q : δ → γ → Prop} {x : α} (h : M.Conv m x) (g : Rel m' (f x) Q) : Rel m' (M.bind m f) Q := by
  obtain ⟨r, r', g1, g2, q⟩ := g
  exact ⟨r, r', g1, M.Conv_bind h g2, q⟩
theorem Rel.two {α : Type} {m m' : M α} {P : α → Prop} (h : Rel m m' fun x y => x = y ∧ P x) : Two m m' P := by
  obtain ⟨r, r', h1, h2, rfl, p⟩ := h
  exact ⟨r, h1, h2, p⟩
theorem Rel.mono {α β : Type} {m : M α} {m' : M β} {P Q : α → β → Prop} (h : Rel m m' P) (g : ∀ x y, P x y → Q x y) : Rel m m' Q := by
  obtain ⟨r, r', h1, h2, p⟩ := h
  exact ⟨r, r', h1, h2, g _ _ p⟩
theorem Rel.iteL {α β : Type} {b : Bool} {x y : M α} {m' : M β} {Q : α → β → Prop} (h1 : b = true → Rel x m' Q) (h2 : b = false → Rel y m' Q) : Rel (M.ite b x y) m' Q := by
  cases b
  · obtain ⟨r, r', g1, g2, q⟩ := h2 rfl
    exact ⟨r, r', M.Conv_ite (fun t => by simp at t) (fun _ => g1), g2, q⟩
  · obtain ⟨r, r', g1, g2, q⟩ := h1 rfl
    exact ⟨r, r', M.Conv_ite (fun _ => g1) (fun t => by simp at t), g2, q⟩
theorem Rel.iteR {α β : Type} {b : Bool} {x y : M β} {m' : M α} {Q : α → β → Prop} (h1 : b = true → Rel m' x Q) (h2 : b = false → Rel m' y Q) : Rel m' (M.ite b x y) Q := by
  cases b
  · obtain ⟨r, r', g1, g2, q⟩ := h2 rfl
    exact ⟨r, r', g1, M.Conv_ite (fun t => by simp at t) (fun _ => g2), q⟩
  · obtain ⟨r, r', g1, g2, q⟩ := h1 rfl
    exact ⟨r, r', g1, M.Conv_ite (fun _ => g2) (fun t => by simp at t), q⟩
theorem Rel.ite {α β : Type} {b b' : Bool} {x y : M α} {x' y' : M β} {Q : α → β → Prop} (e : b = b') (h1 : b = true → Rel x x' Q) (h2 : b = false → Rel y y' Q) : Rel (M.ite b x y) (M.ite b' x' y') Q := by
  subst e
  exact Rel.iteL (fun t => Rel.iteR (fun _ => h1 t) (fun t' => by rw [t] at t'; cases t')) (fun t => Rel.iteR (fun t' => by rw [t] at t'; cases t') (fun _ => h2 t))
theorem Rel.ret {α β : Type} {x : α} {y : β} {Q : α → β → Prop} (q : Q x y) : Rel (M.ret x) (M.ret y) Q := ⟨x, y, M.Conv_ret _, M.Conv_ret _, q⟩
/-- one round of two loops: both go on, or both stop -/
def Round {σ σ' ρ ρ' : Type} (R : σ → σ' → Prop) (Q : ρ → ρ' → Prop) (y : σ ⊕ ρ) (y' : σ' ⊕ ρ') : Prop := (∃ t t', y = .inl t ∧ y' = .inl t' ∧ R t t') ∨ (∃ r r', y = .inr r ∧ y' = .inr r' ∧ Q r r')
theorem Round.on {σ σ' ρ ρ' : Type} {R : σ → σ' → Prop} {Q : ρ → ρ' → Prop} {t : σ} {t' : σ'} (h : R t t') : Round R Q (.inl t) (.inl t') := .inl ⟨t, t', rfl, rfl, h⟩
theorem Rel.for {σ σ' ρ ρ' : Type} {n : Nat} {f : Int → σ → M (σ ⊕ ρ)} {f' : Int → σ' → M (σ' ⊕ ρ')} {fin : σ → ρ} {fin' : σ' → ρ'} {s : σ} {s' : σ'} {Q : ρ → ρ' → Prop} (R : Nat → σ → σ' → Prop) (hn : n ≤ 9223372036854775807) (h0 : R 0 s s')
    (step : ∀ (i : Nat) t t', i < n → R i t t' → Rel (f i t) (f' i t') (Round (R (i + 1)) Q)) (stop : ∀ t t', R n t t' → Q (fin t) (fin' t')) : Rel (M.forI 0 (n : Int) fin f s) (M.forI 0 (n : Int) fin' f' s') Q := by
  have H : ∀ (d i : Nat) t t', i + d = n → R i t t' → ∃ r r', (∃ N, ∀ m, N ≤ m → M.forN (n : Int) fin f m d (i : Int) t = some r) ∧ (∃ N, ∀ m, N ≤ m → M.forN (n : Int) fin' f' m d (i : Int) t' = some r') ∧ Q r r' := by
    intro d
    induction d with
    | zero =>
      intro i t t' e hR
      obtain rfl : i = n := by omega
      exact ⟨fin t, fin' t', ⟨0, fun m _ => by simp [M.forN]⟩, ⟨0, fun m _ => by simp [M.forN]⟩, stop t t' hR⟩
    | succ d ih =>
      intro i t t' e hR
      have hlt : (i : Int) < n := by omega
      obtain ⟨y, y', ⟨N, hy⟩, ⟨N', hy'⟩, hc⟩ := step i t t' (by omega) hR
      rcases hc with ⟨u, u', rfl, rfl, hR⟩ | ⟨r, r', rfl, rfl, hq⟩
      · obtain ⟨r, r', ⟨K, hr⟩, ⟨K', hr'⟩, hq⟩ := ih (i + 1) u u' (by omega) hR
        rw [Int.natCast_add] at hr hr'
        refine ⟨r, r', ⟨max N K, fun m hm => ?_⟩, ⟨max N' K', fun m hm => ?_⟩, hq⟩
        · simp [M.forN, hlt, hy m (by omega)]; exact hr m (by omega)
        · simp [M.forN, hlt, hy' m (by omega)]; exact hr' m (by omega)
      · exact ⟨r, r', ⟨N, fun m hm => by simp [M.forN, hlt, hy m hm]⟩, ⟨N', fun m hm => by simp [M.forN, hlt, hy' m hm]⟩, hq⟩
  obtain ⟨r, r', ⟨N, h1⟩, ⟨N', h2⟩, q⟩ := H n 0 s s' (by omega) h0
  refine ⟨r, r', ⟨N, fun m hm => ?_⟩, ⟨N', fun m hm => ?_⟩, q⟩
  · have := h1 m hm; have hn' : (n : Int) ≤ 9223372036854775807 := by omega
    simp [M.forI, hn']; exact this
  · have := h2 m hm; have hn' : (n : Int) ≤ 9223372036854775807 := by omega
    simp [M.forI, hn']; exact this
/-- a loop with a round count on the left, any loop on the right -/
theorem Rel.loop {σ σ' ρ ρ' : Type} {f : σ → M (σ ⊕ ρ)} {f' : σ' → M (σ' ⊕ ρ')} {s : σ} {s' : σ'} {Q : ρ → ρ' → Prop} (R : σ → σ' → Prop) (μ : σ → Nat) (h0 : R s s')
    (step : ∀ t t', R t t' → Rel (f t) (f' t') (Round (fun u u' => R u u' ∧ μ u < μ t) Q)) : Rel (M.loop f s) (M.loop f' s') Q := by
  have H : ∀ (d : Nat) t t', μ t < d → R t t' → ∃ r r', ConvL f t r ∧ ConvL f' t' r' ∧ Q r r' := by
    intro d
    induction d with
    | zero => intro t t' h; omega
    | succ d ih =>
      intro t t' h hR
      obtain ⟨y, y', hy, hy', hc⟩ := step t t' hR
      rcases hc with ⟨u, u', rfl, rfl, hR, hlt⟩ | ⟨r, r', rfl, rfl, hq⟩
      · obtain ⟨r, r', k1, k2, q⟩ := ih u u' (by omega) hR
        exact ⟨r, r', k1.step hy, k2.step hy', q⟩
      · exact ⟨r, r', ConvL.stop hy, ConvL.stop hy', hq⟩
  obtain ⟨r, r', h1, h2, q⟩ := H (μ s + 1) s s' (by omega) h0
  exact ⟨r, r', h1.conv, h2.conv, q⟩

def nd (l : List Int) (i : Nat) : Int := (l[i]?).getD 0
theorem nd_read {l : List Int} {i : Nat} (h : i < l.length) : M.Conv (M.idx l (i : Int)) (nd l i) := by
  have : l[i]? = some (l[i]'h) := List.getElem?_eq_getElem _
  refine M.Conv_idx ?_
  unfold nd; rw [this]; rfl
def OkNodes (n : Nat) (l : List Int) : Prop := ∀ i, i < l.length → (0 ≤ nd l i ∧ nd l i ≤ (n : Int) - 1) ∧ (0 < i → nd l (i - 1) < nd l i)
theorem OkNodes.len {n : Nat} {l : List Int} (h : OkNodes n l) : l.length ≤ n := by
  have key : ∀ i, i < l.length → (i : Int) ≤ nd l i := by
    intro i
    induction i with
    | zero => intro hi; have := (h 0 hi).1; omega
    | succ i ih => intro hi; have := (h (i + 1) hi).2 (by omega); have := ih (by omega); simp only [Nat.add_sub_cancel] at *; omega
  by_cases e : l.length = 0
  · omega
  · have := key (l.length - 1) (by omega)
    have := (h (l.length - 1) (by omega)).1
    omega
structure ByC (code : List Int) : Prop where
  len : code.length ≤ 4096
  byte : ∀ x ∈ code, 0 ≤ x ∧ x ≤ 255
/-- what a drawn matrix is at least: not large, of numbers -/
structure MatS (a : List (List Int)) : Prop where
  rows : a.length ≤ 11
  row : ∀ r ∈ a, r.length ≤ 10 ∧ ∀ x ∈ r, inI64 x
theorem MatS.of {m n : Nat} {f : Nat → Nat → Int} (hm : m ≤ 10) (hn : n ≤ 10) (hf : ∀ i j, inI64 (f i j)) : MatS (matF m n f) := by
  refine ⟨by rw [matF_len]; omega, fun r hr => ?_⟩
  simp only [matF, tab, List.mem_map, List.mem_range] at hr
  obtain ⟨i, hi, rfl⟩ := hr
  refine ⟨by simp; omega, fun x hx => ?_⟩
  simp only [List.mem_map, List.mem_range] at hx
  obtain ⟨j, hj, rfl⟩ := hx
  exact hf i j
structure VecS (x : List Int) : Prop where
  len : x.length ≤ 20
  mem : ∀ v ∈ x, inI64 v
theorem VecS.set {x : List Int} {v : Int} (i : Nat) (h : VecS x) (hv : inI64 v) : VecS (x.set i v) := ⟨by rw [List.length_set]; exact h.len, fun y hy => by
  rcases List.mem_or_eq_of_mem_set hy with hy | hy
  · exact h.mem y hy
  · subst hy; exact hv⟩
theorem ByC.of {code : List Int} (h : fitL inU8 code) (hb : decide (4096 < (code.length : Int)) = false) : ByC code := ⟨by have := of_decide_eq_false hb; omega, fun x hx => h.2 x hx⟩
def co (c : List Int) (i : Nat) : Int := (c[i]?).getD (-1000000000000000)
theorem co_get {c : List Int} {i : Nat} (h : i < c.length) : c[i]? = some (co c i) := by
  unfold co; rw [List.getElem?_eq_getElem h]; rfl
theorem co_out {c : List Int} {i : Nat} (h : c.length ≤ i) : co c i = -1000000000000000 := by
  unfold co; rw [List.getElem?_eq_none h]; rfl
theorem co_val {c : List Int} (hv : c.all valB = true) (i : Nat) : co c i = -1000000000000000 ∨ -1000000 ≤ co c i ∧ co c i ≤ 1000000 := by
  by_cases hi : i < c.length
  · rw [List.all_eq_true] at hv
    exact val_cases (hv _ (List.mem_of_getElem? (co_get hi)))
  · exact .inl (co_out (by omega))
theorem times_co {a p : Int} (h : a ≠ -1000000000000000) (ha : -1000000 ≤ a ∧ a ≤ 1000000) (hp : -1000000 ≤ p ∧ p ≤ 1000000) : timesI a p = a + p := by
  simp only [timesI]
  rw [show (a == (-1000000000000000)) = false by simpa using h, show (p == (-1000000000000000)) = false by simp; omega]
  exact w64_eq _ (by omega)
theorem times_bot (p : Int) : timesI (-1000000000000000) p = -1000000000000000 := by simp [timesI]
structure PartP (c d : List Int) (n i k : Nat) (s : List Int) : Prop where
  len : s.length = n
  up : ∀ p q : Nat, (p < i ∨ p = i ∧ q < k) → co c p ≠ -1000000000000000 → co d q ≠ -1000000000000000 → co c p + co d q ≤ co s (p + q)
  on : ∀ m : Nat, co s m = -1000000000000000 ∨ ∃ p q : Nat, p + q = m ∧ co c p ≠ -1000000000000000 ∧ co d q ≠ -1000000000000000 ∧ co s m = co c p + co d q
theorem co_set {s : List Int} {i m : Nat} {v : Int} (hi : i < s.length) : co (s.set i v) m = if m = i then v else co s m := by
  unfold co
  by_cases e : m = i
  · subst e; rw [if_pos rfl, List.getElem?_set_self hi]; rfl
  · rw [if_neg e, List.getElem?_set_ne (by omega)]
theorem PartP.step {c d s : List Int} {n i k : Nat} (hc : c.all valB = true) (hd : d.all valB = true) (h : PartP c d n i k s) (hn : i + k < n) : PartP c d n i (k + 1) (s.set (i + k) (mx (co s (i + k)) (timesI (co c i) (co d k)))) := by
  have hlt : i + k < s.length := by rw [h.len]; exact hn
  have vc := co_val hc i
  have vd := co_val hd k
  have vs : co s (i + k) = -1000000000000000 ∨ -2000000 ≤ co s (i + k) := by
    rcases h.on (i + k) with e | ⟨p, q, _, h1, h2, e⟩
    · exact .inl e
    · have := co_val hc p
      have := co_val hd q
      omega
  -- the new coefficient
  have hz : (mx (co s (i + k)) (timesI (co c i) (co d k)) = co s (i + k) ∧ (co c i = -1000000000000000 ∨ co d k = -1000000000000000 ∨ co c i + co d k ≤ co s (i + k))) ∨ (mx (co s (i + k)) (timesI (co c i) (co d k)) = co c i + co d k ∧ co c i ≠ -1000000000000000 ∧ co d k ≠ -1000000000000000 ∧ co s (i + k) ≤ co c i + co d k) := by
    rw [mx_eq]
    by_cases e1 : co c i = -1000000000000000
    · rw [e1, times_bot]; left; omega
    · by_cases e2 : co d k = -1000000000000000
      · rw [e2, show timesI (co c i) (-1000000000000000) = -1000000000000000 by simp [timesI]]; left; omega
      · rw [times_co e1 (by omega) (by omega)]
        by_cases e3 : co c i + co d k ≤ co s (i + k)
        · left; omega
        · right; omega
  refine ⟨by rw [List.length_set]; exact h.len, fun p q hpq h1 h2 => ?_, fun m => ?_⟩
  · rw [co_set hlt]
    by_cases e : p + q = i + k
    · rw [if_pos e]
      by_cases e2 : p = i ∧ q = k
      · obtain ⟨rfl, rfl⟩ := e2; omega
      · have := h.up p q (by omega) h1 h2
        rw [e] at this
        omega
    · rw [if_neg e]
      exact h.up p q (by omega) h1 h2
  · rw [co_set hlt]
    by_cases e : m = i + k
    · rw [if_pos e]
      rcases hz with ⟨hz, _⟩ | ⟨hz, h1, h2, _⟩
      · rw [hz]
        have := h.on m
        rw [e] at this ⊢
        exact this
      · exact .inr ⟨i, k, e.symm, h1, h2, hz⟩
    · rw [if_neg e]; exact h.on m
theorem shp_width {a : List (List Int)} {w : Nat} (h : Shp a w) : widthN a = w := by
  have h1 := h.rows
  unfold widthN
  cases a with
  | nil => simp at h1
  | cons r rs => exact h.row r (by simp)
theorem mat_matB {a : List (List Int)} {w : Nat} (h : Mat a w) : matB a = true := by
  rw [matB_shp h.shp, List.all_eq_true]
  intro r hr
  rw [List.all_eq_true]
  exact (h.row r hr).2
structure DotP (u v : Nat → Int) (n : Nat) (s : Int) : Prop where
  up : ∀ j, j < n → u j ≠ -1000000000000000 → v j ≠ -1000000000000000 → u j + v j ≤ s
  on : s = -1000000000000000 ∨ ∃ j, j < n ∧ u j ≠ -1000000000000000 ∧ v j ≠ -1000000000000000 ∧ s = u j + v j
def rowN (a : List (List Int)) (i : Nat) : List Int := (a[i]?).getD []
def mulM (a b : List (List Int)) : List (List Int) := matF a.length (widthN b) fun i k => dotL (colL b k) (rowN a i)
theorem mulM_shp {a b : List (List Int)} {n w : Nat} (ha : Shp a n) (hb : Shp b w) : Shp (mulM a b) w := by
  unfold mulM
  rw [shp_width hb]
  exact shp_of ha.rows hb.cols
theorem DotP.congr {u v u' v' : Nat → Int} {n : Nat} {s : Int} (h : DotP u v n s) (hu : ∀ j, j < n → u j = u' j) (hv : ∀ j, j < n → v j = v' j) : DotP u' v' n s := by
  refine ⟨fun j hj h1 h2 => ?_, ?_⟩
  · rw [← hu j hj] at h1 ⊢
    rw [← hv j hj] at h2 ⊢
    exact h.up j hj h1 h2
  · rcases h.on with e | ⟨j, hj, h1, h2, e⟩
    · exact .inl e
    · rw [hu j hj] at h1 e
      rw [hv j hj] at h2 e
      exact .inr ⟨j, hj, h1, h2, e⟩
def pw (a f : List (List Int)) : Nat → List (List Int)
  | 0 => f
  | k + 1 => mulM a (pw a f k)
structure Ser (a f : List (List Int)) (w : Nat) : Prop where
  mat : Mat a a.length
  fst : Mat f w
  len : f.length = a.length
theorem Ser.shp {a f : List (List Int)} {w : Nat} (h : Ser a f w) : ∀ k, Shp (pw a f k) w ∧ (pw a f k).length = a.length
  | 0 => ⟨h.fst.shp, h.len⟩
  | k + 1 => ⟨mulM_shp h.mat.shp (h.shp k).1, matF_len _ _ _⟩
def okTo (a f : List (List Int)) (k : Nat) : Prop := ∀ i, i ≤ k → matB (pw a f i) = true
theorem Ser.zero {a f : List (List Int)} {w : Nat} (h : Ser a f w) : okTo a f 0 := fun i hi => by
  obtain rfl : i = 0 := by omega
  exact mat_matB h.fst
theorem okTo.mono {a f : List (List Int)} {k m : Nat} (h : okTo a f k) (hm : m ≤ k) : okTo a f m := fun i hi => h i (by omega)
structure Gr (g : TGraph) (n : Nat) : Prop where
  ev : g.Events = (n : Int)
  lo : 1 ≤ n
  hi : n ≤ 10
  len : g.Places.length ≤ 30
  pl : ∀ p ∈ g.Places, (0 ≤ p.From ∧ p.From < n) ∧ (0 ≤ p.To ∧ p.To < n) ∧ 0 ≤ p.Tokens ∧ p.Tokens ≤ 5
theorem gr_of {g : TGraph} (h : graphB g = true) : ∃ n, Gr g n := by
  simp only [graphB, inB, placeB, Bool.and_eq_true, decide_eq_true_eq, List.all_eq_true] at h
  obtain ⟨⟨⟨h1, h2⟩, h3⟩, h4⟩ := h
  refine ⟨g.Events.toNat, by omega, by omega, by omega, h3, fun p hp => ?_⟩
  obtain ⟨⟨⟨⟨a1, a2⟩, b1, b2⟩, _⟩, d1, d2⟩ := h4 p hp
  rw [w64_eq _ (by omega)] at a2 b2
  omega
/-- a way from s of at most k places -/
inductive Wk (ps : List TPlace) (s : Int) : Nat → Int → Int → Prop
  | nil (k : Nat) : Wk ps s k s 0
  | step (k : Nat) (p : TPlace) (w : Int) : p ∈ ps → Wk ps s k p.From w → Wk ps s (k + 1) p.To (w + p.Tokens)
theorem Wk.mono {ps : List TPlace} {s : Int} {k : Nat} {v w : Int} (h : Wk ps s k v w) : ∀ {m : Nat}, k ≤ m → Wk ps s m v w := by
  induction h with
  | nil k => exact fun _ => .nil _
  | step k p w hp _ ih =>
    intro m hm
    obtain ⟨m', rfl⟩ : ∃ m', m = m' + 1 := ⟨m - 1, by omega⟩
    exact .step m' p w hp (ih (by omega))
def muL : List Int → Nat
  | [] => 0
  | x :: xs => (if x < 0 then 1000 else x.toNat) + muL xs
def cntL : List Int → Nat
  | [] => 0
  | x :: xs => (if x < 0 then 0 else 1) + cntL xs
theorem cnt_le : ∀ d : List Int, cntL d ≤ d.length
  | [] => Nat.le_refl _
  | x :: xs => by
    have := cnt_le xs
    simp only [cntL, List.length_cons]
    split <;> omega
theorem nd_cons (x : Int) (xs : List Int) (i : Nat) : nd (x :: xs) (i + 1) = nd xs i := by simp [nd]
theorem mu_set : ∀ {d : List Int} {i : Nat} {x : Int}, i < d.length → 0 ≤ x → x ≤ 900 → (nd d i < 0 ∨ x < nd d i) → muL (d.set i x) < muL d ∧ cntL (d.set i x) = cntL d + (if nd d i < 0 then 1 else 0)
  | y :: ys, 0, x, _, h0, h1, h => by
    have e : nd (y :: ys) 0 = y := by simp [nd]
    rw [e] at h ⊢
    simp only [List.set_cons_zero, muL, cntL]
    rw [if_neg (show ¬ x < 0 by omega), if_neg (show ¬ x < 0 by omega)]
    by_cases hy : y < 0
    · simp only [if_pos hy]; omega
    · simp only [if_neg hy]; omega
  | y :: ys, i + 1, x, hi, h0, h1, h => by
    rw [nd_cons] at h ⊢
    have := mu_set (d := ys) (i := i) (by simpa using hi) h0 h1 h
    simp only [List.set_cons_succ, muL, cntL]
    omega
theorem nd_set {d : List Int} {i v : Nat} {x : Int} (hi : i < d.length) : nd (d.set i x) v = if v = i then x else nd d v := by
  unfold nd
  by_cases e : v = i
  · subst e; rw [if_pos rfl, List.getElem?_set_self hi]; rfl
  · rw [if_neg e, List.getElem?_set_ne (by omega)]
structure DInv (ps : List TPlace) (s : Int) (n : Nat) (d : List Int) : Prop where
  len : d.length = n
  src : nd d s.toNat = 0
  way : ∀ v : Int, 0 ≤ v → v < n → nd d v.toNat = -1 ∨ (0 ≤ nd d v.toNat ∧ ∃ k, Wk ps s k v (nd d v.toNat))
  bd : ∀ v : Nat, v < n → nd d v ≤ 5 * ((cntL d : Int) - 1)
  one : 1 ≤ cntL d
def Relax (ps : List TPlace) (d : List Int) : Prop := ∀ p ∈ ps, 0 ≤ nd d p.From.toNat → 0 ≤ nd d p.To.toNat ∧ nd d p.To.toNat ≤ nd d p.From.toNat + p.Tokens
theorem DInv.upd {g : TGraph} {s : Int} {n : Nat} {d : List Int} (hg : Gr g n) (hs : 0 ≤ s ∧ s < n) (h : DInv g.Places s n d) {p : TPlace} (hp : p ∈ g.Places) (hf : 0 ≤ nd d p.From.toNat) (ht : nd d p.To.toNat < 0 ∨ nd d p.From.toNat + p.Tokens < nd d p.To.toNat) :
    DInv g.Places s n (d.set p.To.toNat (nd d p.From.toNat + p.Tokens)) ∧ muL (d.set p.To.toNat (nd d p.From.toNat + p.Tokens)) < muL d := by
  obtain ⟨f1, t1, k0, k5⟩ := hg.pl p hp
  have hlt : p.To.toNat < d.length := by rw [h.len]; omega
  have hb := h.bd p.From.toNat (by omega)
  have hc := cnt_le d
  have hn := hg.hi
  have hl := h.len
  obtain ⟨m1, m2⟩ := mu_set (x := nd d p.From.toNat + p.Tokens) hlt (by omega) (by omega) ht
  refine ⟨⟨by rw [List.length_set]; exact h.len, ?_, fun v v0 v1 => ?_, fun v hv => ?_, by rw [m2]; have := h.one; omega⟩, m1⟩
  · rw [nd_set hlt]
    by_cases e : s.toNat = p.To.toNat
    · have := h.src
      rw [e] at this
      omega
    · rw [if_neg e]; exact h.src
  · rw [nd_set hlt]
    by_cases e : v.toNat = p.To.toNat
    · rw [if_pos e]
      right
      refine ⟨by omega, ?_⟩
      rcases h.way p.From f1.1 f1.2 with h1 | ⟨_, k, h1⟩
      · omega
      · obtain rfl : v = p.To := by omega
        exact ⟨k + 1, .step k p _ hp h1⟩
    · rw [if_neg e]; exact h.way v v0 v1
  · rw [nd_set hlt, m2]
    have := h.bd v hv
    by_cases e : v = p.To.toNat
    · rw [if_pos e]
      by_cases e2 : nd d p.To.toNat < 0
      · rw [if_pos e2]; omega
      · rw [if_neg e2]
        have := h.bd p.To.toNat (by omega)
        omega
    · rw [if_neg e]
      split <;> omega
theorem Relax.le {ps : List TPlace} {s : Int} {d : List Int} (hr : Relax ps d) (h0 : nd d s.toNat = 0) {k : Nat} {v w : Int} (h : Wk ps s k v w) : 0 ≤ nd d v.toNat ∧ nd d v.toNat ≤ w := by
  induction h with
  | nil k => omega
  | step k p w hp _ ih =>
    have := hr p hp ih.1
    omega
theorem nd_int {d : List Int} {v : Int} (h0 : 0 ≤ v) (h1 : v.toNat < d.length) : M.Conv (M.idx d v) (nd d v.toNat) := by
  have := nd_read h1
  rwa [show ((v.toNat : Nat) : Int) = v by omega] at this
theorem upd_int {d : List Int} {v x : Int} (h0 : 0 ≤ v) (h1 : v.toNat < d.length) : M.Conv (M.upd d v x) (d.set v.toNat x) := by
  have := M.Conv_upd (l := d) (i := v.toNat) (x := x) h1
  rwa [show ((v.toNat : Nat) : Int) = v by omega] at this
theorem cnt_rep : ∀ n : Nat, cntL (List.replicate n (-1)) = 0
  | 0 => rfl
  | n + 1 => by
    rw [List.replicate_succ]
    simp only [cntL]
    rw [if_pos (by omega), cnt_rep n]
theorem distances_ok {g : TGraph} {n : Nat} (hg : Gr g n) {s : Int} (hs : 0 ≤ s ∧ s < n) : ∃ D, M.Conv (impl_tokenDistances g s) D ∧ DInv g.Places s n D ∧ Relax g.Places D := by
  have hn := hg.hi
  have hn1 := hg.lo
  have hpl := hg.len
  suffices key : M.TC (impl_tokenDistances g s) (fun D => DInv g.Places s n D ∧ Relax g.Places D) from key
  unfold impl_tokenDistances
  rw [hg.ev]
  refine M.TC_bindC (M.Conv_make (by omega) (by omega)) ?_
  rw [Int.toNat_natCast, List.length_replicate]
  refine M.TC_bindC (x := List.replicate n (-1)) ((Conv_fillN (fun _ => (-1)) 0 (by omega) fun i t hi ht => ?_).of (by simp [List.map_const'])) ?_
  · exact M.Conv_bind (M.Conv_get (x := t[i]) (by omega) (by simp [show i < t.length by omega])) (M.Conv_bind (M.Conv_upd (by omega)) (M.Conv_ret _))
  have hsl : s.toNat < (List.replicate n (-1 : Int)).length := by simp; omega
  have hrep : ∀ v, v < n → nd (List.replicate n (-1 : Int)) v = -1 := fun v hv => by unfold nd; simp [hv]
  refine M.TC_bindC (nd_int hs.1 hsl) (M.TC_bindC (upd_int hs.1 hsl) ?_)
  have h0 : DInv g.Places s n ((List.replicate n (-1)).set s.toNat 0) := by
    obtain ⟨_, m2⟩ := mu_set (x := 0) hsl (by omega) (by omega) (.inl (by rw [hrep _ (by omega)]; omega))
    rw [hrep _ (by omega), if_pos (by omega), cnt_rep] at m2
    refine ⟨by simp, by rw [nd_set hsl, if_pos rfl], fun v v0 v1 => ?_, fun v hv => ?_, by omega⟩
    · rw [nd_set hsl]
      by_cases e : v.toNat = s.toNat
      · rw [if_pos e]
        obtain rfl : v = s := by omega
        exact .inr ⟨by omega, 0, .nil 0⟩
      · rw [if_neg e]; exact .inl (hrep _ (by omega))
    · rw [nd_set hsl, m2]
      by_cases e : v = s.toNat
      · rw [if_pos e]; omega
      · rw [if_neg e, hrep v hv]; omega
  refine M.TC_bind (Mid := fun (r : List Int × Bool) => DInv g.Places s n r.1 ∧ Relax g.Places r.1) (M.TC_loop (fun (r : List Int × Bool) => DInv g.Places s n r.1 ∧ (r.2 = false → Relax g.Places r.1)) (fun r => 2 * muL r.1 + (if r.2 then 1 else 0)) _ ⟨h0, fun e => by cases e⟩ fun r hI => ?_) fun r hr => M.TC_ret hr
  obtain ⟨d, ch⟩ := r
  obtain ⟨hd, hrel⟩ := hI
  simp only at hd hrel ⊢
  cases ch with
  | false => exact M.TC_ite (fun t => by cases t) (fun _ => M.TC_ret (.inr ⟨_, rfl, hd, hrel rfl⟩))
  | true =>
    refine M.TC_ite (fun _ => ?_) (fun t => by cases t)
    refine M.TC_bind (Mid := fun (r : List Int × Bool) => DInv g.Places s n r.1 ∧ ((r.2 = false ∧ r.1 = d ∧ Relax g.Places d) ∨ (r.2 = true ∧ muL r.1 < muL d))) (M.TC_for (fun i (r : List Int × Bool) => DInv g.Places s n r.1 ∧ ((r.2 = false ∧ r.1 = d ∧ ∀ (j : Nat) p, (j : Int) < i → g.Places[j]? = some p → 0 ≤ nd d p.From.toNat → 0 ≤ nd d p.To.toNat ∧ nd d p.To.toNat ≤ nd d p.From.toNat + p.Tokens) ∨ (r.2 = true ∧ muL r.1 < muL d))) _ (by omega) (by omega) ⟨hd, .inl ⟨rfl, rfl, fun j p hj => by omega⟩⟩ (fun i r i0 i1 hI => ?_) (fun i r hi hI => ?_)) fun r hr => M.TC_ret (.inl ⟨_, rfl, ⟨hr.1, fun e => ?_⟩, ?_⟩)
    · obtain ⟨j, rfl⟩ : ∃ j : Nat, i = j := ⟨i.toNat, by omega⟩
      obtain ⟨d2, ch⟩ := r
      obtain ⟨hd2, hI⟩ := hI
      simp only at hd2 hI ⊢
      have hj : j < g.Places.length := by omega
      have hget : g.Places[j]? = some g.Places[j] := List.getElem?_eq_getElem hj
      have hmem := List.getElem_mem hj
      generalize g.Places[j] = p at hget hmem
      obtain ⟨f1, t1, k0, k5⟩ := hg.pl p hmem
      have hl2 := hd2.len
      have cf := nd_int (d := d2) f1.1 (by omega)
      have ct := nd_int (d := d2) t1.1 (by omega)
      have hb := hd2.bd p.From.toNat (by omega)
      have hc := cnt_le d2
      refine M.TC_bind (Mid := fun (r : List Int × Bool) => DInv g.Places s n r.1 ∧ ((r.2 = false ∧ r.1 = d ∧ ∀ (j' : Nat) p, (j' : Int) < (j : Int) + 1 → g.Places[j']? = some p → 0 ≤ nd d p.From.toNat → 0 ≤ nd d p.To.toNat ∧ nd d p.To.toNat ≤ nd d p.From.toNat + p.Tokens) ∨ (r.2 = true ∧ muL r.1 < muL d))) ?_ (fun r hr => M.TC_ret (.inl ⟨_, rfl, hr⟩))
      have keep : (0 ≤ nd d2 p.From.toNat → 0 ≤ nd d2 p.To.toNat ∧ nd d2 p.To.toNat ≤ nd d2 p.From.toNat + p.Tokens) → ((ch = false ∧ d2 = d ∧ ∀ (j' : Nat) p, (j' : Int) < (j : Int) + 1 → g.Places[j']? = some p → 0 ≤ nd d p.From.toNat → 0 ≤ nd d p.To.toNat ∧ nd d p.To.toNat ≤ nd d p.From.toNat + p.Tokens) ∨ (ch = true ∧ muL d2 < muL d)) := fun hk => by
        rcases hI with ⟨e1, e2, e3⟩ | hI
        · refine .inl ⟨e1, e2, fun j' q hj' hq => ?_⟩
          by_cases e : j' = j
          · subst e
            rw [hget] at hq
            cases hq
            rw [← e2]; exact hk
          · exact e3 j' q (by omega) hq
        · exact .inr hI
      refine M.TC_bindC (M.Conv_get (x := p) (by omega) (by rw [Int.toNat_natCast]; exact hget)) (M.TC_bindC cf (M.TC_ite (fun t => M.TC_ret ⟨hd2, keep fun h => ?_⟩) (fun t => ?_)))
      · have := of_decide_eq_true t; omega
      · have hf : 0 ≤ nd d2 p.From.toNat := by have := of_decide_eq_false t; omega
        have ew : w64 (nd d2 p.From.toNat + p.Tokens) = nd d2 p.From.toNat + p.Tokens := w64_eq _ (by omega)
        refine M.TC_bindC cf ?_
        rw [ew]
        refine (M.TC_bindC ct (M.TC_bindC (x := decide (nd d2 p.To.toNat < 0) || decide (nd d2 p.From.toNat + p.Tokens < nd d2 p.To.toNat)) (Conv_or fun _ => M.Conv_bind ct (M.Conv_ret _)) (M.TC_ite (fun t2 => ?_) (fun t2 => M.TC_ret ⟨hd2, keep fun _ => ?_⟩))))
        · have t2 : nd d2 p.To.toNat < 0 ∨ nd d2 p.From.toNat + p.Tokens < nd d2 p.To.toNat := by simpa using t2
          obtain ⟨u1, u2⟩ := hd2.upd hg hs hmem hf t2
          refine M.TC_bindC ct (M.TC_bindC (upd_int t1.1 (by omega)) (M.TC_ret ⟨u1, .inr ⟨rfl, ?_⟩⟩))
          rcases hI with ⟨_, e2, _⟩ | ⟨_, hI⟩
          · subst e2; exact u2
          · exact Nat.lt_trans u2 hI
        · have t2 : ¬ nd d2 p.To.toNat < 0 ∧ ¬ nd d2 p.From.toNat + p.Tokens < nd d2 p.To.toNat := by simpa using t2
          omega
    · refine ⟨hI.1, hI.2.imp (fun ⟨e1, e2, e3⟩ => ⟨e1, e2, fun p hp => ?_⟩) id⟩
      obtain ⟨j, hj, rfl⟩ := List.mem_iff_getElem.1 hp
      exact e3 j _ (by clear hI; omega) (List.getElem?_eq_getElem hj)
    · rcases hr.2 with ⟨_, e2, e3⟩ | ⟨e1, _⟩
      · rw [e2]; exact e3
      · rw [e1] at e; cases e
    · rcases hr.2 with ⟨e1, e2, _⟩ | ⟨e1, e2⟩
      · simp only [e1, e2]; simp
      · simp only [e1]; simp; omega

structure TokP (ps : List TPlace) (n : Nat) (k : Nat) (f : Nat → Nat → Int) : Prop where
  snd : ∀ v u, v < n → u < n → f v u = -1000000000000000 ∨ ∃ p ∈ ps, p.To = (v : Int) ∧ p.From = (u : Int) ∧ f v u = - p.Tokens
  cpl : ∀ (j : Nat) p, j < k → ps[j]? = some p → f p.To.toNat p.From.toNat ≠ -1000000000000000 ∧ - p.Tokens ≤ f p.To.toNat p.From.toNat
theorem tokens_ok {g : TGraph} {n : Nat} (hg : Gr g n) : ∃ f, M.Conv (spec_l12Tokens g) (matF n n f) ∧ TokP g.Places n g.Places.length f := by
  have hn := hg.hi
  have hn1 := hg.lo
  have hpl := hg.len
  suffices key : M.TC (spec_l12Tokens g) (fun a => ∃ f, a = matF n n f ∧ TokP g.Places n g.Places.length f) by
    obtain ⟨_, c, f, rfl, h⟩ := key
    exact ⟨f, c, h⟩
  unfold spec_l12Tokens
  rw [hg.ev]
  refine M.TC_bindC (spec_l02Bottom_ok (by omega) (by omega)) ?_
  refine M.TC_bind (Mid := fun (r : List (List Int) × Int) => ∃ f, r.1 = matF n n f ∧ TokP g.Places n g.Places.length f) (M.TC_loop (fun (r : List (List Int) × Int) => ∃ (f : Nat → Nat → Int) (i : Nat), i ≤ g.Places.length ∧ r = (matF n n f, (i : Int)) ∧ TokP g.Places n i f) (fun r => (g.Places.length - r.2).toNat) _ ⟨_, 0, by omega, rfl, fun v u _ _ => .inl rfl, fun j p hj => by omega⟩ fun r hI => ?_) fun r hr => M.TC_ret hr
  obtain ⟨f, i, hi, rfl, hf⟩ := hI
  refine M.TC_ite (fun t => ?_) (fun t => M.TC_ret (.inr ⟨_, rfl, f, rfl, ?_⟩))
  · have hlt : i < g.Places.length := by have := of_decide_eq_true t; simp only at this; omega
    have hget : g.Places[i]? = some g.Places[i] := List.getElem?_eq_getElem hlt
    have hmem := List.getElem_mem hlt
    generalize g.Places[i] = p at hget hmem
    obtain ⟨f1, t1, k0, k5⟩ := hg.pl p hmem
    obtain ⟨v, hv⟩ : ∃ v : Nat, p.To = v := ⟨p.To.toNat, by omega⟩
    obtain ⟨u, hu⟩ : ∃ u : Nat, p.From = u := ⟨p.From.toNat, by omega⟩
    have hvn : v < n := by omega
    have hun : u < n := by omega
    simp only
    refine M.TC_bindC (M.Conv_get (x := p) (by omega) (by rw [Int.toNat_natCast]; exact hget)) ?_
    rw [hv, hu]
    have ew : w64 (0 - p.Tokens) = - p.Tokens := by rw [w64_eq _ (by omega)]; omega
    refine M.TC_bindC (idx_tab hvn) (M.TC_bindC (idx_tab hvn) (M.TC_bindC (idx_tab hun) (M.TC_bindC (idx_tab hun) (M.TC_bindC (M.Conv_upd (by rw [tab_len]; exact hun)) (M.TC_ret (.inl ⟨_, rfl, ⟨fun a b => if a = v ∧ b = u then mx (f v u) (- p.Tokens) else f a b, i + 1, by omega, ?_, ?_, ?_⟩, ?_⟩))))))
    · rw [ew]
      refine Prod.ext ?_ (by simp only; rw [w64_eq _ (by omega)]; omega)
      simp only [Int.toNat_natCast]
      have := matF_set (m := n) (n := n) (i := v) (j := u) (f := f) (g := fun a b => if a = v ∧ b = u then mx (f v u) (- p.Tokens) else f a b) (fun a b _ _ h => by rw [if_neg h])
      rw [if_pos ⟨rfl, rfl⟩] at this
      exact this
    · intro a b ha hb
      by_cases e : a = v ∧ b = u
      · obtain ⟨rfl, rfl⟩ := e
        rw [if_pos ⟨rfl, rfl⟩, mx_eq]
        by_cases e2 : f a b ≤ - p.Tokens
        · rw [show max (f a b) (-p.Tokens) = -p.Tokens by omega]
          exact .inr ⟨p, hmem, hv, hu, rfl⟩
        · rw [show max (f a b) (-p.Tokens) = f a b by omega]
          exact hf.snd a b ha hb
      · rw [if_neg e]; exact hf.snd a b ha hb
    · intro j q hj hq
      obtain ⟨g1, g2, _⟩ := hg.pl q (List.mem_of_getElem? hq)
      by_cases e : j = i
      · subst e
        rw [hget] at hq
        cases hq
        rw [if_pos ⟨by omega, by omega⟩, mx_eq]
        omega
      · have := hf.cpl j q (by omega) hq
        by_cases e2 : q.To.toNat = v ∧ q.From.toNat = u
        · rw [if_pos e2, mx_eq]
          rw [e2.1, e2.2] at this
          omega
        · rw [if_neg e2]; exact this
    · simp only
      rw [w64_eq _ (by omega)]; omega
  · have : i = g.Places.length := by have := of_decide_eq_false t; simp only at this; omega
    subst this; exact hf
theorem nodup_lt : ∀ (n : Nat) (l : List Nat), l.Nodup → (∀ v ∈ l, v < n) → l.length ≤ n
  | 0, [], _, _ => Nat.le_refl _
  | 0, v :: _, _, h => absurd (h v List.mem_cons_self) (by omega)
  | n + 1, l, hd, h => by
    by_cases hm : n ∈ l
    · have := nodup_lt n (l.erase n) (hd.erase n) (fun v hv => by
        have h1 := (hd.mem_erase_iff).1 hv
        have := h v h1.2
        have := h1.1
        omega)
      rw [List.length_erase_of_mem hm] at this
      omega
    · have := nodup_lt n l hd (fun v hv => by
        have := h v hv
        have : v ≠ n := fun e => hm (e ▸ hv)
        omega)
      omega
theorem chain {P : Nat → Nat → Prop} {n s : Nat} (hs : s < n) (h0 : P 0 s) (mono : ∀ k v, P k v → P (k + 1) v) (step : ∀ k, (∀ v, v < n → P (k + 1) v → P k v) → ∀ v, v < n → P (k + 2) v → P (k + 1) v) : ∀ k v, v < n → P k v → P n v := by
  have key : ∀ k, k ≤ n → (∃ j, j < k ∧ ∀ v, v < n → P (j + 1) v → P j v) ∨ ∃ l : List Nat, l.Nodup ∧ l.length = k + 1 ∧ ∀ v ∈ l, v < n ∧ P k v := by
    intro k
    induction k with
    | zero => exact fun _ => .inr ⟨[s], by simp, rfl, fun v hv => by simp at hv; subst hv; exact ⟨hs, h0⟩⟩
    | succ k ih =>
      intro hk
      rcases ih (by omega) with ⟨j, hj, h⟩ | ⟨l, l1, l2, l3⟩
      · exact .inl ⟨j, by omega, h⟩
      · by_cases hst : ∀ v, v < n → P (k + 1) v → P k v
        · exact .inl ⟨k, by omega, hst⟩
        · right
          have : ∃ v, v < n ∧ P (k + 1) v ∧ ¬ P k v := by
            refine Classical.byContradiction fun hc => hst fun v hv hp => Classical.byContradiction fun hnp => hc ⟨v, hv, hp, hnp⟩
          obtain ⟨v, hv, hp, hnp⟩ := this
          refine ⟨v :: l, List.nodup_cons.2 ⟨fun hm => hnp (l3 v hm).2, l1⟩, by simp [l2], fun u hu => ?_⟩
          rcases List.mem_cons.1 hu with rfl | hu
          · exact ⟨hv, hp⟩
          · exact ⟨(l3 u hu).1, mono _ _ (l3 u hu).2⟩
  obtain ⟨j, hj, hst⟩ : ∃ j, j < n ∧ ∀ v, v < n → P (j + 1) v → P j v := by
    rcases key n (Nat.le_refl _) with h | ⟨l, l1, l2, l3⟩
    · exact h
    · have := nodup_lt n l l1 fun v hv => (l3 v hv).1
      omega
  have up : ∀ d k v, P k v → P (k + d) v := by
    intro d
    induction d with
    | zero => exact fun k v h => h
    | succ d ih => exact fun k v h => mono _ _ (ih k v h)
  have stay : ∀ d, ∀ v, v < n → P (j + d + 1) v → P (j + d) v := by
    intro d
    induction d with
    | zero => exact hst
    | succ d ih => exact step (j + d) ih
  have down : ∀ d v, v < n → P (j + d) v → P j v := by
    intro d
    induction d with
    | zero => exact fun v _ h => h
    | succ d ih => exact fun v hv h => ih v hv (stay d v hv h)
  intro k v hv hp
  have h1 : P (j + k) v := by have := up j k v hp; rwa [Nat.add_comm] at this
  have h2 := down k v hv h1
  have := up (n - j) j v h2
  rwa [show j + (n - j) = n by omega] at this
theorem M.TC_forN {σ : Type} {n : Nat} {f : Int → σ → M (σ ⊕ σ)} {s : σ} (I : Nat → σ → Prop) (hn : n ≤ 9223372036854775807) (h0 : I 0 s) (round : ∀ (i : Nat) s, i < n → I i s → M.TC (f (i : Int) s) fun y => ∃ s', y = .inl s' ∧ I (i + 1) s') : M.TC (M.forI 0 (n : Int) (fun s => s) f s) (I n) := by
  refine M.TC_for (fun i s => I i.toNat s) s (by omega) (by omega) h0 (fun i s h1 h2 hI => ?_) (fun i s hi hI => ?_)
  · obtain ⟨k, rfl⟩ : ∃ k : Nat, i = k := ⟨i.toNat, by omega⟩
    refine (round k s (by omega) (by simpa using hI)).mono fun y hy => ?_
    obtain ⟨s', e, h⟩ := hy
    exact .inl ⟨s', e, by rw [show ((k : Int) + 1).toNat = k + 1 by omega]; exact h⟩
  · have e : i.toNat = n := by omega
    rw [e] at hI; exact hI
theorem M.TC_forE {σ ρ : Type} {n : Nat} {f : Int → σ → M (σ ⊕ (σ ⊕ ρ))} {s : σ} (I : Nat → σ → Prop) (Q : ρ → Prop) (hn : n ≤ 9223372036854775807) (h0 : I 0 s) (round : ∀ (i : Nat) s, i < n → I i s → M.TC (f (i : Int) s) fun y => (∃ s', y = .inl s' ∧ I (i + 1) s') ∨ ∃ r, y = .inr (.inr r) ∧ Q r) :
    M.TC (M.forI 0 (n : Int) (fun s => .inl s) f s) (fun y => (∃ s', y = .inl s' ∧ I n s') ∨ ∃ r, y = .inr r ∧ Q r) := by
  refine M.TC_for (fun i s => I i.toNat s) s (by omega) (by omega) h0 (fun i s h1 h2 hI => ?_) (fun i s hi hI => ?_)
  · obtain ⟨k, rfl⟩ : ∃ k : Nat, i = k := ⟨i.toNat, by omega⟩
    refine (round k s (by omega) (by simpa using hI)).mono fun y hy => ?_
    rcases hy with ⟨s', e, h⟩ | ⟨r, e, h⟩
    · exact .inl ⟨s', e, by rw [show ((k : Int) + 1).toNat = k + 1 by omega]; exact h⟩
    · exact .inr ⟨_, e, .inr ⟨r, rfl, h⟩⟩
  · have e : i.toNat = n := by omega
    rw [e] at hI; exact .inl ⟨s, rfl, hI⟩
inductive RK (E : Nat → Nat → Prop) (n v : Nat) : Nat → Nat → Prop
  | nil (k : Nat) : RK E n v k v
  | step (k j i : Nat) : RK E n v k j → j < n → i < n → E j i → RK E n v (k + 1) i
theorem RK.mono {E : Nat → Nat → Prop} {n v k i : Nat} (h : RK E n v k i) : ∀ {m : Nat}, k ≤ m → RK E n v m i := by
  induction h with
  | nil k => exact fun _ => .nil _
  | step k j i _ hj hi he ih =>
    intro m hm
    obtain ⟨m', rfl⟩ : ∃ m', m = m' + 1 := ⟨m - 1, by omega⟩
    exact .step m' j i (ih (by omega)) hj hi he
theorem RK.short {E : Nat → Nat → Prop} {n v k i : Nat} (hv : v < n) (h : RK E n v k i) (hi : i < n) : RK E n v n i := by
  refine chain (P := fun k i => RK E n v k i) hv (.nil 0) (fun k i h => h.mono (by omega)) (fun k hst i hi h => ?_) k i hi h
  generalize e : k + 2 = m at h
  cases h with
  | nil => exact .nil _
  | step k' j i hj1 hj hi he =>
    obtain rfl : k' = k + 1 := by omega
    exact .step k j i (hst j hj hj1) hj hi he
def Rch (E : Nat → Nat → Prop) (n v i : Nat) : Prop := ∃ k, RK E n v k i
theorem Rch.refl (E : Nat → Nat → Prop) (n v : Nat) : Rch E n v v := ⟨0, .nil 0⟩
theorem Rch.step {E : Nat → Nat → Prop} {n v j i : Nat} (h : Rch E n v j) (hj : j < n) (hi : i < n) (he : E j i) : Rch E n v i := let ⟨k, h⟩ := h; ⟨k + 1, .step k j i h hj hi he⟩
theorem Rch.trans {E : Nat → Nat → Prop} {n v j i : Nat} (h : Rch E n v j) (g : Rch E n j i) : Rch E n v i := by
  obtain ⟨k, g⟩ := g
  induction g with
  | nil => exact h
  | step k j' i' _ hj hi he ih => exact ih.step hj hi he
def arcE (a : List (List Int)) (k i : Nat) : Prop := entA a i k ≠ -1000000000000000
def bmF (n : Nat) (r : Nat → Nat → Bool) : List (List Bool) := tab n fun i => tab n (r i)
theorem bset {n i : Nat} {f : Nat → Bool} {b : Bool} : (tab n f).set i b = tab n fun p => if p = i then b else f p :=
  tab_set (by rw [if_pos rfl]) fun p _ hp => by rw [if_neg hp]
theorem spec_l05Reach_ok {a : List (List Int)} (hs : Shp a a.length) : ∃ r : Nat → Nat → Bool, M.Conv (spec_l05Reach a) (bmF a.length r) ∧ ∀ v i, v < a.length → i < a.length → (r v i = true ↔ Rch (arcE a) a.length v i) := by
  have hrows := hs.rows
  have row : ∀ v, v < a.length → ∃ f : Nat → Bool, M.Conv (M.forI 0 (a.length : Int) (fun s => s) (fun _ => (fun (s2 : (List Bool)) => M.bind (M.forI 0 (a.length : Int) (fun s => s) (fun i3 => (fun (s3 : (List Bool)) => M.bind (M.forI 0 (a.length : Int) (fun s => s) (fun i4 => (fun (s4 : (List Bool)) => M.bind (M.idx s4 i4) (fun x6 => M.bind (M.ite x6 (M.bind (M.idx a i3) (fun x8 => M.bind (M.idx x8 i4) (fun x9 => M.ret (x9 != (-1000000000000000))))) (M.ret false)) (fun x7 => M.bind (M.ite x7 (M.bind (M.idx s4 i3) (fun x10 => M.bind (M.upd s4 i3 true) (fun l3 => M.ret l3))) (M.ret s4)) (fun (s5 : (List Bool)) => M.ret (.inl s5)))))) s3) (fun x5 => M.ret (.inl x5)))) s2) (fun x4 => M.ret (.inl x4)))) (tab a.length fun p => if p = v then true else false)) (tab a.length f) ∧ ∀ i, i < a.length → (f i = true ↔ Rch (arcE a) a.length v i) := fun v hv => by
    have key := M.TC_forN (n := a.length) (f := fun _ => (fun (s2 : (List Bool)) => M.bind (M.forI 0 (a.length : Int) (fun s => s) (fun i3 => (fun (s3 : (List Bool)) => M.bind (M.forI 0 (a.length : Int) (fun s => s) (fun i4 => (fun (s4 : (List Bool)) => M.bind (M.idx s4 i4) (fun x6 => M.bind (M.ite x6 (M.bind (M.idx a i3) (fun x8 => M.bind (M.idx x8 i4) (fun x9 => M.ret (x9 != (-1000000000000000))))) (M.ret false)) (fun x7 => M.bind (M.ite x7 (M.bind (M.idx s4 i3) (fun x10 => M.bind (M.upd s4 i3 true) (fun l3 => M.ret l3))) (M.ret s4)) (fun (s5 : (List Bool)) => M.ret (.inl s5)))))) s3) (fun x5 => M.ret (.inl x5)))) s2) (fun x4 => M.ret (.inl x4)))) (s := tab a.length fun p => if p = v then true else false)
      (fun t s => ∃ f : Nat → Bool, s = tab a.length f ∧ (∀ i, i < a.length → f i = true → Rch (arcE a) a.length v i) ∧ ∀ i, i < a.length → RK (arcE a) a.length v t i → f i = true) (by omega)
      ⟨_, rfl, (fun i _ h => by
        by_cases e : i = v
        · subst e; exact Rch.refl _ _ _
        · rw [if_neg e] at h; cases h), (fun i _ h => by
        generalize e : 0 = t at h
        cases h with
        | nil => exact if_pos rfl
        | step => omega)⟩ (fun t s _ hI => ?_)
    · obtain ⟨l, c, f, rfl, h1, h2⟩ := key
      exact ⟨f, c, fun i hi => ⟨h1 i hi, fun h => by
        obtain ⟨k, h⟩ := h
        exact h2 i hi (h.short hv hi)⟩⟩
    · obtain ⟨f0, rfl, s0, c0⟩ := hI
      refine M.TC_bind (M.TC_forN (n := a.length) (fun i s => ∃ f : Nat → Bool, s = tab a.length f ∧ (∀ p, p < a.length → f p = true → Rch (arcE a) a.length v p) ∧ (∀ p, f0 p = true → f p = true) ∧ ∀ p q, p < i → q < a.length → f0 q = true → arcE a q p → f p = true) (by omega) ⟨f0, rfl, s0, fun p h => h, fun p q hp => by omega⟩ (fun i s hi hI => ?_)) (fun l hl => ?_)
      · obtain ⟨f1, rfl, s1, m1, c1⟩ := hI
        refine M.TC_bind (M.TC_forN (n := a.length) (fun k s => ∃ f : Nat → Bool, s = tab a.length f ∧ (∀ p, p < a.length → f p = true → Rch (arcE a) a.length v p) ∧ (∀ p, f1 p = true → f p = true) ∧ ∀ q, q < k → f0 q = true → arcE a q i → f i = true) (by omega) ⟨f1, rfl, s1, fun p h => h, fun q hq => by omega⟩ (fun k s hk hI => ?_)) (fun l hl => ?_)
        · obtain ⟨f2, rfl, s2, m2, c2⟩ := hI
          obtain ⟨rw', r1, _, r2⟩ := ent_read hs hi hk
          refine M.TC_bindC (idx_tab hk) (M.TC_bindC (x := f2 k && (entA a i k != (-1000000000000000))) (M.Conv_ite (fun t => M.Conv_bind r1 (M.Conv_bind r2 ((M.Conv_ret _).of (by rw [t]; rfl)))) (fun t => (M.Conv_ret _).of (by rw [t]; rfl))) ?_)
          cases hb : f2 k && (entA a i k != (-1000000000000000)) with
          | true =>
            simp only [Bool.and_eq_true, bne_iff_ne, ne_eq] at hb
            refine M.TC_bindC (M.Conv_ite (fun _ => M.Conv_bind (idx_tab hi) (M.Conv_bind (M.Conv_upd (by rw [tab_len]; exact hi)) (M.Conv_ret _))) (fun t => by cases t)) (M.TC_ret ⟨_, rfl, _, bset, fun p hp h => ?_, fun p h => ?_, fun q hq _ _ => if_pos rfl⟩)
            · by_cases e : p = i
              · subst e; exact (s2 k hk hb.1).step hk hp hb.2
              · rw [if_neg e] at h; exact s2 p hp h
            · by_cases e : p = i
              · rw [if_pos e]
              · rw [if_neg e]; exact m2 p h
          | false =>
            refine M.TC_bindC (M.Conv_ite (fun t => by cases t) (fun _ => M.Conv_ret _)) (M.TC_ret ⟨_, rfl, f2, rfl, s2, m2, fun q hq h0 he => ?_⟩)
            by_cases e : q = k
            · subst e
              have h3 := m2 q (m1 q h0)
              rw [h3] at hb
              exact absurd he (by simpa [arcE] using hb)
            · exact c2 q (by omega) h0 he
        · obtain ⟨f2, rfl, s2, m2, c2⟩ := hl
          refine M.TC_ret ⟨_, rfl, f2, rfl, s2, fun p h => m2 p (m1 p h), fun p q hp hq h0 he => ?_⟩
          by_cases e : p = i
          · subst e; exact c2 q hq h0 he
          · exact m2 p (c1 p q (by omega) hq h0 he)
      · obtain ⟨f1, rfl, s1, m1, c1⟩ := hl
        refine M.TC_ret ⟨_, rfl, f1, rfl, s1, fun i hi h => ?_⟩
        generalize e : t + 1 = t' at h
        cases h with
        | nil => exact m1 v (c0 v hv (.nil _))
        | step k j i hj1 hj _ he =>
          obtain rfl : k = t := by omega
          exact c1 i j hi hj (c0 j hj hj1) he
  have key : M.TC (spec_l05Reach a) (fun m => ∃ r : Nat → Nat → Bool, m = bmF a.length r ∧ ∀ v i, v < a.length → i < a.length → (r v i = true ↔ Rch (arcE a) a.length v i)) := by
    unfold spec_l05Reach
    refine M.TC_bind (M.TC_forN (n := a.length) (fun v s => ∃ r : Nat → Nat → Bool, s = tab v (fun i => tab a.length (r i)) ∧ ∀ u i, u < v → i < a.length → (r u i = true ↔ Rch (arcE a) a.length u i)) (by omega) ⟨fun _ _ => false, rfl, fun u i hu => by omega⟩ (fun v s hv hI => ?_)) (fun l hl => ?_)
    · obtain ⟨r, rfl, h⟩ := hI
      obtain ⟨f, c, hf⟩ := row v hv
      refine M.TC_bindC ((M.Conv_make (by omega) (by omega)).of (r' := tab a.length fun _ => false) (by rw [Int.toNat_natCast, tab_rep])) (M.TC_bindC (idx_tab hv) (M.TC_bindC ((M.Conv_upd (by rw [tab_len]; exact hv)).of bset) (M.TC_bindC c (M.TC_bindC (M.Conv_app (by rw [tab_len]; simp; omega)) (M.TC_ret ⟨_, rfl, fun u => if u = v then f else r u, ?_, fun u i hu hi => ?_⟩)))))
      · rw [← tab_snoc]
        congr 1
        · exact tab_congr fun u hu => by simp only; rw [if_neg (by omega)]
        · simp only [if_true]
      · by_cases e : u = v
        · subst e; simp only [if_true]; exact hf i hi
        · simp only; rw [if_neg e]; exact h u i (by omega) hi
    · obtain ⟨r, rfl, h⟩ := hl
      exact M.TC_ret ⟨r, rfl, h⟩
  obtain ⟨m, c, r, rfl, h⟩ := key
  exact ⟨r, c, h⟩
def compF (r : Nat → Nat → Bool) (n v : Nat) : List Int := ((List.range n).filter fun w => r v w && r w v).map fun (w : Nat) => (w : Int)
def compsF (r : Nat → Nat → Bool) (n : Nat) : List (List Int) := ((List.range n).filter fun (v : Nat) => (compF r n v).head? == some (v : Int)).map (compF r n)
theorem filter_snoc {p : Nat → Bool} (i : Nat) : (List.range (i + 1)).filter p = (List.range i).filter p ++ (bif p i then [i] else []) := by
  rw [List.range_succ, List.filter_append]
  cases h : p i <;> simp [h]
theorem compF_mem {r : Nat → Nat → Bool} {n v : Nat} {x : Int} : x ∈ compF r n v ↔ ∃ w : Nat, x = w ∧ w < n ∧ r v w = true ∧ r w v = true := by
  simp only [compF, List.mem_map, List.mem_filter, List.mem_range, Bool.and_eq_true]
  constructor
  · rintro ⟨w, ⟨h1, h2, h3⟩, rfl⟩; exact ⟨w, rfl, h1, h2, h3⟩
  · rintro ⟨w, rfl, h1, h2, h3⟩; exact ⟨w, ⟨h1, h2, h3⟩, rfl⟩
theorem comps_ok {n : Nat} {r : Nat → Nat → Bool} (hn : n ≤ 10) (hr : ∀ v, v < n → r v v = true) :
    M.Conv (M.bind (M.forI 0 (n : Int) (fun s => s) (fun i1 => (fun (s1 : (List (List Int))) => M.bind (M.forI 0 (n : Int) (fun s => s) (fun i2 => (fun (s2 : (List Int)) => M.bind (M.idx (bmF n r) i1) (fun x4 => M.bind (M.idx x4 i2) (fun x5 => M.bind (M.ite x5 (M.bind (M.idx (bmF n r) i2) (fun x7 => M.bind (M.idx x7 i1) (fun x8 => M.ret x8))) (M.ret false)) (fun x6 => M.bind (M.ite x6 (M.bind (M.app s2 ([i2] : List Int)) (fun l1 => M.ret l1)) (M.ret s2)) (fun (s3 : (List Int)) => M.ret (.inl s3))))))) ([] : List Int)) (fun x3 => M.bind (M.idx x3 0) (fun x9 => M.bind (M.ite (x9 == i1) (M.bind (M.app s1 [x3]) (fun l2 => M.ret l2)) (M.ret s1)) (fun (s4 : (List (List Int))) => M.ret (.inl s4)))))) ([] : List (List Int))) (fun x2 => M.ret x2)) (compsF r n) := by
  refine M.Conv_bind (Conv_forV (fun i => ((List.range i).filter fun (v : Nat) => (compF r n v).head? == some (v : Int)).map (compF r n)) (by omega) fun v hv => ?_) (M.Conv_ret _)
  have hin : M.Conv (M.forI 0 (n : Int) (fun s => s) (fun i2 => (fun (s2 : (List Int)) => M.bind (M.idx (bmF n r) (v : Int)) (fun x4 => M.bind (M.idx x4 i2) (fun x5 => M.bind (M.ite x5 (M.bind (M.idx (bmF n r) i2) (fun x7 => M.bind (M.idx x7 (v : Int)) (fun x8 => M.ret x8))) (M.ret false)) (fun x6 => M.bind (M.ite x6 (M.bind (M.app s2 ([i2] : List Int)) (fun l1 => M.ret l1)) (M.ret s2)) (fun (s3 : (List Int)) => M.ret (.inl s3))))))) ([] : List Int)) (compF r n v) := by
    refine Conv_forV (fun i => ((List.range i).filter fun w => r v w && r w v).map fun (w : Nat) => (w : Int)) (by omega) fun w hw => ?_
    refine M.Conv_bind (idx_tab hv) (M.Conv_bind (idx_tab hw) (M.Conv_bind (x := r v w && r w v) (M.Conv_ite (fun t => M.Conv_bind (idx_tab hw) (M.Conv_bind (idx_tab hv) ((M.Conv_ret _).of (by rw [t]; rfl)))) (fun t => (M.Conv_ret _).of (by rw [t]; rfl))) ?_))
    rw [filter_snoc]
    cases hb : r v w && r w v with
    | true =>
      refine M.Conv_bind (M.Conv_ite (fun _ => M.Conv_bind (M.Conv_app ?_) (M.Conv_ret _)) (fun t => by cases t)) ((M.Conv_ret _).of ?_)
      · have := List.length_filter_le (fun w => r v w && r w v) (List.range w)
        rw [List.length_range] at this
        rw [List.length_map]
        simp only [List.length_cons, List.length_nil]
        omega
      · simp
    | false => exact M.Conv_bind (M.Conv_ite (fun t => by cases t) (fun _ => M.Conv_ret _)) ((M.Conv_ret _).of (by simp))
  refine M.Conv_bind hin ?_
  have hmem : (v : Int) ∈ compF r n v := compF_mem.2 ⟨v, rfl, hv, hr v hv, hr v hv⟩
  obtain ⟨y, ys, hy⟩ := List.exists_cons_of_ne_nil (List.ne_nil_of_mem hmem)
  refine M.Conv_bind (x := y) (M.Conv_get (by omega) (by rw [hy]; rfl)) ?_
  rw [filter_snoc, show ((compF r n v).head? == some (v : Int)) = (y == (v : Int)) by rw [hy]; rfl]
  cases hb : (y == (v : Int)) with
  | true =>
    refine M.Conv_bind (M.Conv_ite (fun _ => M.Conv_bind (M.Conv_app ?_) (M.Conv_ret _)) (fun t => by cases t)) ((M.Conv_ret _).of ?_)
    · have := List.length_filter_le (fun (v : Nat) => (compF r n v).head? == some (v : Int)) (List.range v)
      rw [List.length_range] at this
      rw [List.length_map]
      simp only [List.length_cons, List.length_nil]
      omega
    · simp
  | false => exact M.Conv_bind (M.Conv_ite (fun t => by cases t) (fun _ => M.Conv_ret _)) ((M.Conv_ret _).of (by simp))
/-- one component: all reach each other -/
theorem comps_one {n : Nat} {r : Nat → Nat → Bool} (hn : 1 ≤ n) (hr : ∀ v, v < n → r v v = true) (ht : ∀ u v w, u < n → v < n → w < n → r u v = true → r v w = true → r u w = true) : (compsF r n).length = 1 ↔ ∀ v w, v < n → w < n → r v w = true := by
  have head : ∀ v, v < n → ∃ m, m < n ∧ (compF r n v).head? = some (m : Int) ∧ r v m = true ∧ r m v = true := fun v hv => by
    have hmem : (v : Int) ∈ compF r n v := compF_mem.2 ⟨v, rfl, hv, hr v hv, hr v hv⟩
    obtain ⟨y, ys, hy⟩ := List.exists_cons_of_ne_nil (List.ne_nil_of_mem hmem)
    obtain ⟨m, rfl, h1, h2, h3⟩ := compF_mem.1 (show y ∈ compF r n v by rw [hy]; exact List.mem_cons_self)
    exact ⟨m, h1, by rw [hy]; rfl, h2, h3⟩
  have same : ∀ v m, v < n → m < n → r v m = true → r m v = true → compF r n v = compF r n m := fun v m hv hm h1 h2 => by
    unfold compF
    congr 1
    refine List.filter_congr fun w hw => ?_
    have hw := List.mem_range.1 hw
    rw [Bool.eq_iff_iff, Bool.and_eq_true, Bool.and_eq_true]
    exact ⟨fun ⟨a, b⟩ => ⟨ht m v w hm hv hw h2 a, ht w v m hw hv hm b h1⟩, fun ⟨a, b⟩ => ⟨ht v m w hv hm hw h1 a, ht w m v hw hm hv b h2⟩⟩
  have fix : ∀ v m : Nat, v < n → (compF r n v).head? = some (m : Int) → m < n → r v m = true → r m v = true → m ∈ (List.range n).filter fun (v : Nat) => (compF r n v).head? == some (v : Int) := fun v m hv h hm h1 h2 => by
    refine List.mem_filter.2 ⟨List.mem_range.2 hm, ?_⟩
    rw [← same v m hv hm h1 h2, h]; simp
  constructor
  · intro h1
    have h1 : ((List.range n).filter fun (v : Nat) => (compF r n v).head? == some (v : Int)).length = 1 := by
      have := h1; unfold compsF at this; rwa [List.length_map] at this
    obtain ⟨x, hx⟩ := List.length_eq_one_iff.1 h1
    have hx' : ∀ v, v < n → r v x = true ∧ r x v = true := fun v hv => by
      obtain ⟨m, hm, h, a, b⟩ := head v hv
      have := fix v m hv h hm a b
      rw [hx] at this
      have := List.mem_singleton.1 this
      subst this
      exact ⟨a, b⟩
    have hxn : x < n := by
      have : x ∈ (List.range n).filter fun (v : Nat) => (compF r n v).head? == some (v : Int) := by rw [hx]; exact List.mem_singleton.2 rfl
      exact List.mem_range.1 (List.mem_filter.1 this).1
    exact fun v w hv hw => ht v x w hv hxn hw (hx' v hv).1 (hx' w hw).2
  · intro h
    have e : ∀ v, v < n → compF r n v = (List.range n).map fun (w : Nat) => (w : Int) := fun v hv => by
      unfold compF
      congr 1
      refine List.filter_eq_self.2 fun w hw => ?_
      have hw := List.mem_range.1 hw
      rw [h v w hv hw, h w v hw hv]; rfl
    unfold compsF
    rw [List.length_map]
    have : (List.range n).filter (fun (v : Nat) => (compF r n v).head? == some (v : Int)) = [0] := by
      obtain ⟨k, rfl⟩ : ∃ k, n = k + 1 := ⟨n - 1, by omega⟩
      have e0 : ∀ v, v < k + 1 → ((compF r (k + 1) v).head? == some (v : Int)) = (v == 0) := fun v hv => by
        rw [e v hv, List.range_succ_eq_map]
        simp only [List.map_cons, List.head?_cons]
        rw [Bool.eq_iff_iff]; simp
        omega
      rw [List.filter_congr fun v hv => e0 v (List.mem_range.1 hv), List.range_succ_eq_map, List.filter_cons]
      simp
    rw [this]; rfl
theorem spec_l05Components_ok {a : List (List Int)} (hs : Shp a a.length) : ∃ r : Nat → Nat → Bool, M.Conv (spec_l05Components a) (compsF r a.length) ∧ ∀ v i, v < a.length → i < a.length → (r v i = true ↔ Rch (arcE a) a.length v i) := by
  obtain ⟨r, h1, h2⟩ := spec_l05Reach_ok hs
  have := hs.rows
  refine ⟨r, ?_, h2⟩
  unfold spec_l05Components
  exact M.Conv_bind h1 (comps_ok (by omega) fun v hv => (h2 v v hv hv).2 (Rch.refl _ _ _))
theorem contains_neg {l : List Int} (h : l.length ≤ 9223372036854775807) (v : Int) : M.Conv (slices_Contains_int l v) (l.any fun x => v == x) := by
  unfold slices_Contains_int slices_Index_int
  refine contains_ok (fun x => v == x) h fun i x hx => ?_
  refine M.Conv_bind (M.Conv_get (by omega) (by simpa using hx)) ?_
  cases v == x <;> exact M.Conv_ret _
/-- ways along places, and arcs of the matrix of tokens -/
theorem way_iff {g : TGraph} {n : Nat} {f : Nat → Nat → Int} (hg : Gr g n) (hf : TokP g.Places n g.Places.length f) {u v : Nat} (hu : u < n) (hv : v < n) : Rch (arcE (matF n n f)) n u v ↔ ∃ k w, Wk g.Places u k v w := by
  constructor
  · rintro ⟨k, h⟩
    induction h with
    | nil => exact ⟨0, 0, .nil 0⟩
    | step k j i _ hj hi he ih =>
      obtain ⟨k', w, h⟩ := ih hj
      unfold arcE at he
      rw [entA_matF hi hj] at he
      obtain ⟨p, hp, p1, p2, _⟩ := (hf.snd i j hi hj).resolve_left he
      rw [← p2] at h
      have := Wk.step k' p w hp h
      rw [p1] at this
      exact ⟨_, _, this⟩
  · rintro ⟨k, w, h⟩
    generalize hvv : (v : Int) = vv at h
    induction h generalizing v with
    | nil =>
      obtain rfl : v = u := by omega
      exact Rch.refl _ _ _
    | step k p w hp hw ih =>
      obtain ⟨f1, t1, k0, k5⟩ := hg.pl p hp
      have h1 := ih (v := p.From.toNat) (by omega) (by omega)
      obtain ⟨i, hi, rfl⟩ := List.mem_iff_getElem.1 hp
      obtain ⟨a1, a2⟩ := hf.cpl i _ hi (List.getElem?_eq_getElem hi)
      refine h1.step (by omega) hv ?_
      unfold arcE
      rw [entA_matF hv (by omega)]
      rw [← hvv, Int.toNat_natCast] at a1
      exact a1
theorem same_IsStrong (g : TGraph) (_ : okTGraph g) (sg : smG g) : Two (spec_IsStrong g) (impl_IsStrong g) (fun _ => True) := by
  have hl : g.Places.length ≤ 9223372036854775806 := by have := sg; unfold smG smP at this; omega
  unfold spec_IsStrong impl_IsStrong
  refine Two.bindC (spec_IsEventGraph_ok hl) (impl_IsEventGraph_ok hl) (Two.ite (fun _ => Two.ret _ trivial) (fun h => ?_))
  obtain ⟨n, hg⟩ := gr_of (by simpa using h)
  have hn := hg.hi
  have hn1 := hg.lo
  obtain ⟨f, f1, f2⟩ := tokens_ok hg
  have hsh : Shp (matF n n f) n := shp_of ⟨hn1, hn⟩ ⟨hn1, hn⟩
  have hln : (matF n n f).length = n := matF_len _ _ _
  obtain ⟨r, r1, r2⟩ := spec_l05Components_ok (a := matF n n f) (by rw [hln]; exact hsh)
  rw [hln] at r1 r2
  have hone := comps_one (n := n) (r := r) hn1 (fun v hv => (r2 v v hv hv).2 (Rch.refl _ _ _)) (fun u v w hu hv hw a b => (r2 u w hu hw).2 (((r2 u v hu hv).1 a).trans ((r2 v w hv hw).1 b)))
  refine Two.left f1 (Two.left r1 ?_)
  rw [hg.ev]
  have dist : ∀ u : Nat, u < n → ∃ D, M.Conv (impl_tokenDistances g (u : Int)) D ∧ D.length = n ∧ ((D.any fun x => (-1 : Int) == x) = false ↔ ∀ v, v < n → r u v = true) := fun u hu => by
    obtain ⟨D, d1, d2, d3⟩ := distances_ok hg (s := (u : Int)) (by omega)
    refine ⟨D, d1, d2.len, ?_⟩
    have hst : ∀ v, v < n → (nd D v = -1 ↔ ¬ r u v = true) := fun v hv => by
      rw [r2 u v hu hv, way_iff hg f2 hu hv]
      have hw := d2.way (v : Int) (by omega) (by omega)
      rw [Int.toNat_natCast] at hw
      constructor
      · rintro e ⟨k, w, hk⟩
        have := d3.le d2.src hk
        rw [Int.toNat_natCast] at this
        omega
      · intro hno
        rcases hw with e | ⟨_, k, hk⟩
        · exact e
        · exact absurd ⟨k, _, hk⟩ hno
    rw [Bool.eq_false_iff, ne_eq, List.any_eq_true]
    constructor
    · intro hno v hv
      refine Classical.byContradiction fun hc => hno ⟨nd D v, ?_, ?_⟩
      · have hlt : v < D.length := by rw [d2.len]; exact hv
        unfold nd
        rw [List.getElem?_eq_getElem hlt]
        exact List.getElem_mem hlt
      · rw [(hst v hv).2 hc]; rfl
    · rintro hall ⟨x, hx, hx1⟩
      obtain ⟨v, hv, rfl⟩ := List.mem_iff_getElem.1 hx
      have hv' : v < n := by rw [← d2.len]; exact hv
      have : nd D v = -1 := by
        unfold nd
        rw [List.getElem?_eq_getElem hv]
        simp only [Option.getD_some]
        exact (by simpa using hx1 : (-1 : Int) = D[v]).symm
      exact absurd (hall v hv') ((hst v hv').1 this)
  have key : M.TC (M.forI 0 (n : Int) (fun s => .inl s) (fun i1 => (fun (_ : Unit) => M.bind (impl_tokenDistances g i1) (fun x3 => M.bind (slices_Contains_int x3 (-1)) (fun x4 => M.ite x4 (M.ret (.inr (.inr (false, (0 : Int))))) (M.ret (.inl ())))))) () : M (Unit ⊕ (Bool × Int))) (fun y => (∃ s', y = .inl s' ∧ ∀ u v, u < n → v < n → r u v = true) ∨ ∃ q, y = .inr q ∧ (q = (false, 0) ∧ ∃ u v, u < n ∧ v < n ∧ ¬ r u v = true)) := by
    refine M.TC_forE (fun i (_ : Unit) => ∀ u v, u < i → v < n → r u v = true) (fun q : Bool × Int => q = (false, 0) ∧ ∃ u v, u < n ∧ v < n ∧ ¬ r u v = true) (by omega) (fun u v hu => by omega) (fun u s hu hI => ?_)
    obtain ⟨D, d1, d2, d3⟩ := dist u hu
    refine M.TC_bindC d1 (M.TC_bindC (contains_neg (by omega) _) ?_)
    cases hb : (D.any fun x => (-1 : Int) == x) with
    | true =>
      refine M.TC_ite (fun _ => M.TC_ret (.inr ⟨_, rfl, rfl, ?_⟩)) (fun t => by cases t)
      refine Classical.byContradiction fun hc => ?_
      have : (D.any fun x => (-1 : Int) == x) = false := d3.2 fun v hv => Classical.byContradiction fun h => hc ⟨u, v, hu, hv, h⟩
      rw [hb] at this; cases this
    | false =>
      refine M.TC_ite (fun t => by cases t) (fun _ => M.TC_ret (.inl ⟨_, rfl, fun u' v hu' hv => ?_⟩))
      by_cases e : u' = u
      · subst e; exact d3.1 hb v hv
      · exact hI u' v (by omega) hv
  obtain ⟨y, c, hy⟩ := key
  refine Two.right c ?_
  rcases hy with ⟨s, rfl, hall⟩ | ⟨q, rfl, rfl, u, v, hu, hv, hno⟩
  · have h1 := hone.2 hall
    exact Two.mk (M.Conv_ret _) ((M.Conv_ret (true, (0 : Int))).of (by rw [h1]; rfl)) trivial
  · have h1 : ((compsF r n).length : Int) ≠ 1 := fun e => hno (hone.1 (by omega) u v hu hv)
    refine Two.mk (M.Conv_ret _) ((M.Conv_ret (false, (0 : Int))).of (Prod.ext ?_ rfl)) trivial
    simp only
    exact (by simpa using h1 : (((compsF r n).length : Int) == 1) = false).symm

theorem FnExactIsStrong_ok (aG : TGraph) (gaG : okTGraph aG) : M.Conv (laws_FnExactIsStrong aG) true := by
  unfold laws_FnExactIsStrong
  obtain ⟨zaG, hzaG, ssaG⟩ := szG_ok gaG
  refine M.Conv_bind hzaG ?_
  refine M.Conv_ite (fun _ => M.Conv_ret _) (fun qaG => ?_)
  have saG := ssaG qaG
  have nzaG := of_decide_eq_false qaG
  refine M.Conv_bind (toG_ok saG) ?_
  obtain ⟨w, hS, hI, hw⟩ := same_IsStrong aG gaG saG
  refine M.Conv_bind hS ?_
  refine M.Conv_bind (toG_ok saG) ?_
  refine M.Conv_bind hI ?_
  refine M.Conv_ite (fun q => ?_) (fun _ => ?_)
  · exfalso; revert q; simp
  refine M.Conv_bind (toG_ok saG) ?_
  refine M.Conv_bind (eqG_refl saG) ?_
  refine M.Conv_ite (fun q => ?_) (fun _ => ?_)
  · exfalso; revert q; simp
  exact M.Conv_ret _

/-- below the line through i and j -/
def Sup (F : Int → Prop) (y : Int → Int) (i j : Int) : Prop := ∀ p, F p → (y p - y i) * (j - i) ≤ (y j - y i) * (p - i)
/-- the line through i and j is steeper than the line through j and k -/
abbrev Stp (y : Int → Int) (i j k : Int) : Prop := (y k - y j) * (j - i) < (y j - y i) * (k - j)
/-- vertices, the last one first -/
def HullR (F : Int → Prop) (y : Int → Int) : List Int → Prop
  | [] => True
  | [t] => F t ∧ ∀ p, F p → t ≤ p
  | j :: i :: r => F j ∧ i < j ∧ Sup F y i j ∧ (∀ h r', r = h :: r' → Stp y h i j) ∧ HullR F y (i :: r)
theorem HullR.head {F : Int → Prop} {y : Int → Int} {j : Int} {r : List Int} (h : HullR F y (j :: r)) : F j := by
  cases r <;> exact h.1
end Go.Proofs.Ytipdgiljgbjjkaa
