/-
  Plain proofs: the plain program of the law ends with true.
  Conditions: None beyond the given statement.
-/
import Derived.Test.YtbemhgddkkggmaaP
namespace Go.Proofs.Ytbemhgddkkggmaa
open Go
/-! ### plain programs: loops over a list -/
namespace M
variable {α β σ ρ : Type}
/-- rounds over the elements of a list, each with its place; a round may leave -/
def run (g : Nat → α → σ → σ ⊕ ρ) (fin : σ → ρ) : Nat → List α → σ → ρ
  | _, [], s => fin s
  | i, x :: xs, s => match g i x s with
    | .inl s' => run g fin (i + 1) xs s'
    | .inr r => r
theorem Conv_forN {l : List α} {f : Int → σ → M (σ ⊕ ρ)} (g : Nat → α → σ → σ ⊕ ρ) (fin : σ → ρ) (I : Nat → σ → Prop) (hi : Int) :
    ∀ (xs : List α) (i : Nat) (s : σ), hi = (i + xs.length : Nat) → I i s → (∀ (j : Nat) x s, xs[j]? = some x → I (i + j) s → Conv (f (i + j : Nat) s) (g (i + j) x s) ∧ ∀ s', g (i + j) x s = .inl s' → I (i + j + 1) s') →
      ∃ N, ∀ n, N ≤ n → forN hi fin f n xs.length i s = some (run g fin i xs s)
  | [], i, s, hh, _, _ => ⟨0, fun n _ => by
      have : ¬ (i : Int) < hi := by rw [hh]; simp
      simp [forN, run, this]⟩
  | x :: xs, i, s, hh, h0, H => by
    have hlt : (i : Int) < hi := by rw [hh]; simp; omega
    obtain ⟨⟨N, hN⟩, hI⟩ := H 0 x s rfl h0
    simp only [Nat.add_zero] at hN hI
    cases hg : g i x s with
    | inl s' =>
      have hi' := hI s' hg
      obtain ⟨N', hN'⟩ := Conv_forN (l := l) g fin I hi xs (i + 1) s' (by rw [hh, List.length_cons]; congr 1; omega) hi' (fun j y s hy hIs => by
        have := H (j + 1) y s (by simpa using hy) (by rw [← Nat.add_assoc, Nat.add_right_comm]; exact hIs)
        rw [show i + (j + 1) = i + 1 + j by omega] at this
        exact this)
      refine ⟨max N N', fun n hn => ?_⟩
      have h1 := hN n (by omega)
      rw [hg] at h1
      simp only [List.length_cons, forN, hlt, decide_true, cond_true, h1, run, hg]
      have := hN' n (by omega)
      simpa using this
    | inr r =>
      refine ⟨N, fun n hn => ?_⟩
      have h1 := hN n hn
      rw [hg] at h1
      simp only [List.length_cons, forN, hlt, decide_true, cond_true, h1, run, hg]
/-- a loop over a list, with an invariant -/
theorem Conv_forI {l : List α} {f : Int → σ → M (σ ⊕ ρ)} {fin : σ → ρ} {s : σ} (g : Nat → α → σ → σ ⊕ ρ) (I : Nat → σ → Prop) (hl : l.length ≤ 9223372036854775807) (h0 : I 0 s)
    (H : ∀ (i : Nat) x s, l[i]? = some x → I i s → Conv (f i s) (g i x s) ∧ ∀ s', g i x s = .inl s' → I (i + 1) s') : Conv (forI 0 (l.length : Int) fin f s) (run g fin 0 l s) := by
  obtain ⟨N, hN⟩ := Conv_forN (l := l) (f := f) g fin I (l.length : Int) l 0 s (by simp) h0 (fun j x s hx hI => by simpa using H j x s hx (by simpa using hI))
  refine ⟨N, fun n hn => ?_⟩
  have h1 : (l.length : Int) ≤ 9223372036854775807 := by omega
  simp only [forI, h1, decide_true, Bool.and_true, show (-9223372036854775808 : Int) ≤ 0 by decide, cond_true]
  have := hN n hn
  simpa using this
/-- .. without one -/
theorem Conv_forL {l : List α} {f : Int → σ → M (σ ⊕ ρ)} {fin : σ → ρ} {s : σ} (g : Nat → α → σ → σ ⊕ ρ) (hl : l.length ≤ 9223372036854775807)
    (H : ∀ (i : Nat) x s, l[i]? = some x → Conv (f i s) (g i x s)) : Conv (forI 0 (l.length : Int) fin f s) (run g fin 0 l s) :=
  Conv_forI g (fun _ _ => True) hl trivial fun i x s hx _ => ⟨H i x s hx, fun _ _ => trivial⟩
theorem Conv.of {m : M α} {r r' : α} (h : Conv m r) (e : r = r') : Conv m r' := e ▸ h
theorem Conv_ite {b : Bool} {x y : M α} {r : α} (h1 : b = true → Conv x r) (h2 : b = false → Conv y r) : Conv (ite b x y) r := by
  cases b
  · exact h2 rfl
  · exact h1 rfl
theorem Conv_ite2 {b : Bool} {x y : M α} {r s : α} (h1 : b = true → Conv x r) (h2 : b = false → Conv y s) : Conv (ite b x y) (bif b then r else s) := by
  cases b
  · exact h2 rfl
  · exact h1 rfl
theorem Conv_guard {b : Bool} (h : b = true) : Conv (guard b) () := ⟨0, fun _ _ => by simp [guard, h]⟩
theorem Conv_upd {l : List α} {i : Nat} {x : α} (h : i < l.length) : Conv (upd l i x) (l.set i x) := ⟨0, fun _ _ => by simp [upd, h]⟩
theorem Conv_get {l : List α} {i : Int} {x : α} (h0 : 0 ≤ i) (h : l[i.toNat]? = some x) : Conv (idx l i) x := ⟨0, fun _ _ => by simp [idx, h0, h]⟩
/-- a value told in both ways of a test, then the rest -/
theorem Conv_bite {b : Bool} {x y : M α} {f : α → M β} {u v : α} {r : β} (h1 : b = true → Conv x u) (h2 : b = false → Conv y v) (g : Conv (f (bif b then u else v)) r) : Conv (bind (ite b x y) f) r :=
  Conv_bind (Conv_ite2 h1 h2) g

/-! searches: a loop that leaves at the first element of a kind -/
theorem run_all (p : α → Bool) (u : Unit ⊕ ρ) : ∀ (i : Nat) (l : List α), run (ρ := Unit ⊕ ρ) (fun _ x _ => bif p x then .inl () else .inr u) (fun s => .inl s) i l () = bif l.all p then .inl () else u
  | _, [] => rfl
  | i, x :: xs => by
    simp only [run, List.all_cons]
    cases p x
    · rfl
    · simpa using run_all p u (i + 1) xs
/-- 'for .. if not p x, return v' -/
theorem Conv_all {l : List α} {f : Int → Unit → M (Unit ⊕ (Unit ⊕ ρ))} (p : α → Bool) (v : ρ) (hl : l.length ≤ 9223372036854775807) (H : ∀ (i : Nat) x, l[i]? = some x → Conv (f i ()) (bif p x then .inl () else .inr (.inr v))) :
    Conv (forI 0 (l.length : Int) (fun s => .inl s) f ()) (bif l.all p then .inl () else .inr v) :=
  (Conv_forL (fun _ x _ => bif p x then .inl () else .inr (.inr v)) hl fun i x _ hx => H i x hx).of (run_all p (.inr v) 0 l)
/-- the same, where the element's place matters to the test -/
theorem run_allI (p : Nat → α → Bool) (u : Unit ⊕ ρ) : ∀ (i : Nat) (l : List α), run (ρ := Unit ⊕ ρ) (fun j x _ => bif p j x then .inl () else .inr u) (fun s => .inl s) i l () = bif (l.zipIdx i).all (fun q => p q.2 q.1) then .inl () else u
  | _, [] => rfl
  | i, x :: xs => by
    simp only [run, List.zipIdx_cons, List.all_cons]
    cases p i x
    · rfl
    · simpa using run_allI p u (i + 1) xs
theorem Conv_allI {l : List α} {f : Int → Unit → M (Unit ⊕ (Unit ⊕ ρ))} (p : Nat → α → Bool) (v : ρ) (hl : l.length ≤ 9223372036854775807) (H : ∀ (i : Nat) x, l[i]? = some x → Conv (f i ()) (bif p i x then .inl () else .inr (.inr v))) :
    Conv (forI 0 (l.length : Int) (fun s => .inl s) f ()) (bif (l.zipIdx 0).all (fun q => p q.2 q.1) then .inl () else .inr v) :=
  (Conv_forL (fun j x _ => bif p j x then .inl () else .inr (.inr v)) hl fun i x _ hx => H i x hx).of (run_allI p (.inr v) 0 l)
/-- 'for i .. if p x, return i' -/
theorem run_find (p : α → Bool) : ∀ (i : Nat) (l : List α), run (σ := Unit) (ρ := Unit ⊕ Int) (fun j x _ => bif p x then .inr (.inr (j : Int)) else .inl ()) (fun s => .inl s) i l () = match l.findIdx? p with
    | some j => .inr ((i + j : Nat) : Int)
    | none => .inl ()
  | _, [] => rfl
  | i, x :: xs => by
    simp only [run, List.findIdx?_cons]
    cases hp : p x
    · simp only [cond_false, run_find p (i + 1) xs, Bool.false_eq_true, if_false]
      cases xs.findIdx? p with
      | none => rfl
      | some j => simp only [Option.map_some]; congr 2; omega
    · simp
theorem Conv_find {l : List α} {f : Int → Unit → M (Unit ⊕ (Unit ⊕ Int))} (p : α → Bool) (hl : l.length ≤ 9223372036854775807) (H : ∀ (i : Nat) x, l[i]? = some x → Conv (f i ()) (bif p x then .inr (.inr (i : Int)) else .inl ())) :
    Conv (forI 0 (l.length : Int) (fun s => .inl s) f ()) (match l.findIdx? p with | some j => .inr (j : Int) | none => .inl ()) :=
  (Conv_forL (fun j x _ => bif p x then .inr (.inr (j : Int)) else .inl ()) hl fun i x _ hx => H i x hx).of (by rw [run_find]; simp)
/-- sums: each round turns what has been gathered -/
theorem run_fold (g : σ → α → σ) : ∀ (i : Nat) (l : List α) (s : σ), run (fun _ x s => .inl (g s x)) (fun s => s) i l s = l.foldl g s
  | _, [], _ => rfl
  | i, x :: xs, s => by simpa [run] using run_fold g (i + 1) xs (g s x)
theorem Conv_fold {l : List α} {f : Int → σ → M (σ ⊕ σ)} {s : σ} (g : σ → α → σ) (hl : l.length ≤ 9223372036854775807) (H : ∀ (i : Nat) x s, l[i]? = some x → Conv (f i s) (.inl (g s x))) :
    Conv (forI 0 (l.length : Int) (fun s => s) f s) (l.foldl g s) :=
  (Conv_forL (fun _ x s => .inl (g s x)) hl fun i x s hx => H i x s hx).of (run_fold g 0 l s)
theorem get_set_append {l r : List α} {x y : α} : (l ++ y :: r).set l.length x = l ++ x :: r := by simp
/-- a loop that fills a list of the same length, element by element -/
theorem run_fill (g : Nat → α → β) (z : β) : ∀ (i : Nat) (l : List α) (d : List β), d.length = i →
    run (fun j x s => .inl (s.set j (g j x))) (fun s => s) i l (d ++ List.replicate l.length z) = d ++ (l.zipIdx i).map (fun q => g q.2 q.1)
  | _, [], d, _ => by simp [run]
  | i, x :: xs, d, hd => by
    subst hd
    simp only [run, List.length_cons, List.replicate_succ, get_set_append]
    have := run_fill g z (d.length + 1) xs (d ++ [g d.length x]) (by simp)
    simp only [List.append_assoc, List.singleton_append] at this
    rw [this]
    simp
theorem Conv_fill {l : List α} {f : Int → List β → M (List β ⊕ List β)} (g : Nat → α → β) (z : β) (hl : l.length ≤ 9223372036854775807)
    (H : ∀ (i : Nat) x s, l[i]? = some x → s.length = l.length → Conv (f i s) (.inl (s.set i (g i x)))) :
    Conv (forI 0 (l.length : Int) (fun s => s) f (List.replicate l.length z)) ((l.zipIdx 0).map (fun q => g q.2 q.1)) := by
  refine (Conv_forI (fun j x s => .inl (s.set j (g j x))) (fun _ s => s.length = l.length) hl (by simp) fun i x s hx hI => ⟨H i x s hx hI, fun s' e => ?_⟩).of ?_
  · cases e; simpa using hI
  · simpa using run_fill g z 0 l [] rfl
theorem zipIdx_map_fst {l : List α} {g : α → β} {i : Nat} : ((l.zipIdx i).map fun q => g q.1) = l.map g := by
  have h : List.map (g ∘ Prod.fst) (l.zipIdx i) = List.map g l := by rw [← List.map_map, List.zipIdx_map_fst]
  exact h
theorem findIdx_any {l : List α} {p : α → Bool} : (decide ((0:Int) ≤ match l.findIdx? p with | some j => (j : Int) | none => -1)) = l.any p := by
  cases h : l.findIdx? p with
  | none => rw [List.findIdx?_eq_none_iff] at h; simp; exact fun x hx => by simpa using h x hx
  | some j =>
    obtain ⟨hj, hp, _⟩ := List.findIdx?_eq_some_iff_getElem.1 h
    simp
    exact ⟨_, List.getElem_mem hj, hp⟩
end M
def finB (x : Int) : Bool := decide (-1000000 ≤ x) && decide (x ≤ 1000000)
def valB (x : Int) : Bool := x == (-1000000000000000) || finB x
theorem spec_l01In_ok (x lo hi : Int) : M.Conv (spec_l01In x lo hi) (decide (lo ≤ x) && decide (x ≤ hi)) := M.Conv_ret _
theorem impl_within_ok (x lo hi : Int) : M.Conv (impl_within x lo hi) (decide (lo ≤ x) && decide (x ≤ hi)) := M.Conv_ret _
/-- 'slices.ContainsFunc', behind 'slices.IndexFunc' -/
theorem contains_ok {α : Type} {l : List α} {f : Int → Unit → M (Unit ⊕ (Unit ⊕ Int))} (p : α → Bool) (hl : l.length ≤ 9223372036854775807) (H : ∀ (i : Nat) x, l[i]? = some x → M.Conv (f i ()) (bif p x then .inr (.inr (i : Int)) else .inl ())) :
    M.Conv (M.bind (M.bind (M.forI 0 (l.length : Int) (fun s => .inl s) f ()) (fun x1 => M.cont x1 (fun _ => M.ret (-1)) (fun r => M.ret r))) (fun x1 => M.ret (decide (0 ≤ x1)))) (l.any p) := by
  rw [← M.findIdx_any]
  refine M.Conv_bind (M.Conv_bind (M.Conv_find p hl H) ?_) (M.Conv_ret _)
  cases l.findIdx? p <;> exact M.Conv_ret _
theorem any_not {α : Type} {l : List α} {p : α → Bool} : (!l.any fun x => !p x) = l.all p := by
  induction l with
  | nil => rfl
  | cons x xs ih => simp only [List.any_cons, List.all_cons, Bool.not_or, Bool.not_not, ih]
theorem mx_eq (a b : Int) : mx a b = max a b := by unfold mx; split <;> omega
def smI (l : List Int) : Prop := l.length ≤ 1099511627776
theorem finB_bd {x : Int} (h : finB x = true) : -1000000 ≤ x ∧ x ≤ 1000000 := by simpa [finB] using h
theorem val_ne {x : Int} (h : valB x = true) (hn : (x == (-1000000000000000)) = false) : finB x = true := by simpa [valB, hn] using h
/-- an index below k, whose coefficient is finite -/
def termB (c : List Int) (k : Nat) (t : Int) : Prop := 0 ≤ t ∧ t < k ∧ ∃ x, c[t.toNat]? = some x ∧ finB x = true
/-- two programs, one answer -/
def Two {α : Type} (m m' : M α) (Post : α → Prop) : Prop := ∃ r, M.Conv m r ∧ M.Conv m' r ∧ Post r
theorem Two.mk {α : Type} {m m' : M α} {Post : α → Prop} {r : α} (h : M.Conv m r) (h' : M.Conv m' r) (p : Post r) : Two m m' Post := ⟨r, h, h', p⟩
theorem Two.ret {α : Type} {Post : α → Prop} (r : α) (p : Post r) : Two (M.ret r) (M.ret r) Post := ⟨r, M.Conv_ret _, M.Conv_ret _, p⟩
theorem Two.bind {α β : Type} {m m' : M α} {f f' : α → M β} {P : α → Prop} {Q : β → Prop} (h : Two m m' P) (g : ∀ x, P x → Two (f x) (f' x) Q) : Two (M.bind m f) (M.bind m' f') Q := by
  obtain ⟨x, h1, h2, p⟩ := h
  obtain ⟨r, g1, g2, q⟩ := g x p
  exact ⟨r, M.Conv_bind h1 g1, M.Conv_bind h2 g2, q⟩
theorem Two.bindC {α α' β : Type} {m : M α} {m' : M α'} {f : α → M β} {f' : α' → M β} {Q : β → Prop} {x : α} {x' : α'} (h : M.Conv m x) (h' : M.Conv m' x') (g : Two (f x) (f' x') Q) : Two (M.bind m f) (M.bind m' f') Q := by
  obtain ⟨r, g1, g2, q⟩ := g
  exact ⟨r, M.Conv_bind h g1, M.Conv_bind h' g2, q⟩
theorem Two.left {α β : Type} {m : M α} {m' : M β} {f : α → M β} {Q : β → Prop} {x : α} (h : M.Conv m x) (g : Two (f x) m' Q) : Two (M.bind m f) m' Q := by
  obtain ⟨r, g1, g2, q⟩ := g
  exact ⟨r, M.Conv_bind h g1, g2, q⟩
theorem Two.right {α β : Type} {m : M α} {m' : M β} {f : α → M β} {Q : β → Prop} {x : α} (h : M.Conv m x) (g : Two m' (f x) Q) : Two m' (M.bind m f) Q := by
  obtain ⟨r, g1, g2, q⟩ := g
  exact ⟨r, g1, M.Conv_bind h g2, q⟩
theorem Two.ite {α : Type} {b : Bool} {x y x' y' : M α} {Q : α → Prop} (h1 : b = true → Two x x' Q) (h2 : b = false → Two y y' Q) : Two (M.ite b x y) (M.ite b x' y') Q := by
  cases b
  · exact h2 rfl
  · exact h1 rfl
theorem Two.iteL {α : Type} {b : Bool} {x y m' : M α} {Q : α → Prop} (h1 : b = true → Two x m' Q) (h2 : b = false → Two y m' Q) : Two (M.ite b x y) m' Q := by
  cases b
  · exact h2 rfl
  · exact h1 rfl
theorem Two.iteR {α : Type} {b : Bool} {x y m' : M α} {Q : α → Prop} (h1 : b = true → Two m' x Q) (h2 : b = false → Two m' y Q) : Two m' (M.ite b x y) Q := by
  cases b
  · exact h2 rfl
  · exact h1 rfl
theorem Two.mono {α : Type} {m m' : M α} {P Q : α → Prop} (h : Two m m' P) (hp : ∀ r, P r → Q r) : Two m m' Q := let ⟨r, a, b, c⟩ := h; ⟨r, a, b, hp r c⟩
theorem two_forN {σ ρ : Type} {hi : Int} {fin : σ → ρ} {f f' : Int → σ → M (σ ⊕ ρ)} {Post : ρ → Prop} (I : Int → σ → Prop) (lo : Int)
    (round : ∀ i s, lo ≤ i → i < hi → I i s → Two (f i s) (f' i s) fun y => (∃ s', y = .inl s' ∧ I (i + 1) s') ∨ (∃ r, y = .inr r ∧ Post r)) :
    ∀ (d : Nat) (i : Int) (s : σ), (hi - i).toNat = d → lo ≤ i → (i ≤ hi ∨ i = lo) → I i s → (∀ i s, (i = hi ∨ i = lo ∧ hi ≤ lo) → I i s → Post (fin s)) → ∃ r, (∃ N, ∀ n, N ≤ n → M.forN hi fin f n d i s = some r) ∧ (∃ N, ∀ n, N ≤ n → M.forN hi fin f' n d i s = some r) ∧ Post r
  | 0, i, s, hd, h1, h2, hI, fi => by
    have hge : ¬ i < hi := by omega
    exact ⟨fin s, ⟨0, fun n _ => by simp [M.forN, hge]⟩, ⟨0, fun n _ => by simp [M.forN, hge]⟩, fi i s (by omega) hI⟩
  | d + 1, i, s, hd, h1, h2, hI, fi => by
    have hlt : i < hi := by omega
    obtain ⟨y, ⟨N, hy⟩, ⟨N', hy'⟩, hc⟩ := round i s h1 hlt hI
    rcases hc with ⟨s', rfl, hI'⟩ | ⟨r, rfl, hp⟩
    · obtain ⟨r, ⟨N1, h3⟩, ⟨N2, h4⟩, hp⟩ := two_forN (fin := fin) I lo round d (i + 1) s' (by omega) (by omega) (by omega) hI' fi
      exact ⟨r, ⟨max N N1, fun n hn => by simp [M.forN, hlt, hy n (by omega), h3 n (by omega)]⟩, ⟨max N' N2, fun n hn => by simp [M.forN, hlt, hy' n (by omega), h4 n (by omega)]⟩, hp⟩
    · exact ⟨r, ⟨N, fun n hn => by simp [M.forN, hlt, hy n hn]⟩, ⟨N', fun n hn => by simp [M.forN, hlt, hy' n hn]⟩, hp⟩
theorem Two.for {σ ρ : Type} {lo hi : Int} {fin : σ → ρ} {f f' : Int → σ → M (σ ⊕ ρ)} {s : σ} {Post : ρ → Prop} (I : Int → σ → Prop) (hlo : -9223372036854775808 ≤ lo) (hhi : hi ≤ 9223372036854775807) (h0 : I lo s)
    (round : ∀ i s, lo ≤ i → i < hi → I i s → Two (f i s) (f' i s) fun y => (∃ s', y = .inl s' ∧ I (i + 1) s') ∨ (∃ r, y = .inr r ∧ Post r)) (done : ∀ i s, (i = hi ∨ i = lo ∧ hi ≤ lo) → I i s → Post (fin s)) :
    Two (M.forI lo hi fin f s) (M.forI lo hi fin f' s) Post := by
  obtain ⟨r, ⟨N, h1⟩, ⟨N', h2⟩, hp⟩ := two_forN (fin := fin) I lo round _ lo s rfl (Int.le_refl _) (.inr rfl) h0 done
  exact ⟨r, ⟨N, fun n hn => by simp [M.forI, hlo, hhi, h1 n hn]⟩, ⟨N', fun n hn => by simp [M.forI, hlo, hhi, h2 n hn]⟩, hp⟩
def timesI (a b : Int) : Int := bif (a == (-1000000000000000)) || (b == (-1000000000000000)) then (-1000000000000000) else w64 (a + b)
theorem spec_l01Own_ok {l : List Int} (h : smI l) : M.Conv (spec_l01Own l) l := by
  unfold smI at h
  exact M.Conv_bind (M.Conv_app (by simp; omega)) ((M.Conv_ret _).of (by simp))
def okTPlace (p : TPlace) : Prop := inI64 p.From ∧ inI64 p.To ∧ inI64 p.Delay ∧ inI64 p.Tokens
def okTGraph (g : TGraph) : Prop := inI64 g.Events ∧ fitL okTPlace g.Places
def smP (l : List TPlace) : Prop := l.length ≤ 1099511627
def smG (g : TGraph) : Prop := smP g.Places
theorem szG_ok {g : TGraph} (h : okTGraph g) : ∃ z, M.Conv (laws_szEventGraph g 1048576) z ∧ (decide (z < 0) = false → smG g) := by
  have hl := h.2.1
  unfold laws_szEventGraph laws_szPlaceS
  have e : w64 (1048576 - (g.Places.length : Int)) = 1048576 - g.Places.length := w64_eq _ (by omega)
  rw [e]
  by_cases h1 : (1048576 : Int) - g.Places.length < 0
  · refine ⟨-1, M.Conv_bind (x := -1) (M.Conv_ite (fun _ => M.Conv_ret _) (fun q => by have := of_decide_eq_false q; omega)) (M.Conv_ite (fun _ => M.Conv_ret _) (fun q => by simp at q)), fun q => by simp at q⟩
  · refine ⟨1048576 - (g.Places.length : Int), M.Conv_bind (x := 1048576 - (g.Places.length : Int)) (M.Conv_ite (fun q => absurd (of_decide_eq_true q) h1) (fun _ => M.Conv_ret _)) (M.Conv_ite (fun q => absurd (of_decide_eq_true q) h1) (fun _ => M.Conv_ret _)), fun _ => ?_⟩
    simp only [smG, smP]; omega
theorem toPlace_ok {p : TPlace} : M.Conv (laws_toPlace p) p := M.Conv_ret _
theorem toPlaceS_ok {a : List TPlace} (h : smP a) : M.Conv (laws_toPlaceS a) a := by
  unfold smP at h
  unfold laws_toPlaceS
  refine M.Conv_bind (M.Conv_make (by omega) (by omega)) ?_
  refine M.Conv_bind (x := a) (((M.Conv_fill (l := a) (f := _) (fun _ x => x) _ (by omega) fun i x s hx hs => ?_)).of ?_) (M.Conv_ret _)
  · have hi := (List.getElem?_eq_some_iff.1 hx).1
    refine M.Conv_bind (M.Conv_get (by omega) (by simpa using hx)) (M.Conv_bind toPlace_ok ?_)
    refine M.Conv_bind (M.Conv_get (x := s[i]) (by omega) (by simp [show i < s.length by omega])) ?_
    exact M.Conv_bind (M.Conv_upd (by omega)) (M.Conv_ret _)
  · exact M.zipIdx_map_fst.trans (List.map_id' _)
theorem toG_ok {g : TGraph} (h : smG g) : M.Conv (laws_toEventGraph g) g := M.Conv_bind (toPlaceS_ok h) (M.Conv_ret _)
theorem eqPlace_refl {p : TPlace} : M.Conv (laws_eqPlace p p) true := by
  unfold laws_eqPlace
  refine M.Conv_ite (fun q => by simp at q) (fun _ => M.Conv_ite (fun q => by simp at q) (fun _ => M.Conv_ite (fun q => by simp at q) (fun _ => M.Conv_ite (fun q => by simp at q) (fun _ => M.Conv_ret _))))
theorem eqPlaceS_refl {a : List TPlace} (h : smP a) : M.Conv (laws_eqPlaceS a a) true := by
  unfold smP at h
  unfold laws_eqPlaceS
  refine M.Conv_ite (fun q => by simp at q) (fun _ => M.Conv_bind (M.Conv_all (fun _ => true) false (by omega) fun i x hx => ?_) ?_)
  case refine_2 => rw [show (a.all fun _ => true) = true by simp]; exact M.Conv_ret _
  have hg : M.Conv (M.idx a i) x := M.Conv_get (by omega) (by simpa using hx)
  exact M.Conv_bind hg (M.Conv_bind hg (M.Conv_bind eqPlace_refl (M.Conv_ite (fun q => by simp at q) (fun _ => M.Conv_ret _))))
theorem eqG_refl {g : TGraph} (h : smG g) : M.Conv (laws_eqEventGraph g g) true := by
  unfold laws_eqEventGraph
  refine M.Conv_ite (fun q => by simp at q) (fun _ => M.Conv_bind (eqPlaceS_refl h) (M.Conv_ite (fun q => by simp at q) (fun _ => M.Conv_ret _)))
theorem Conv_and {b v : Bool} {m : M Bool} (h : b = true → M.Conv m v) : M.Conv (M.ite b (M.bind m (fun x => M.ret x)) (M.ret false)) (b && v) := by
  refine M.Conv_ite (fun q => ?_) (fun q => ?_)
  · rw [q]; exact M.Conv_bind (h q) (M.Conv_ret _)
  · rw [q]; exact M.Conv_ret _
def inB (x lo hi : Int) : Bool := decide (lo ≤ x) && decide (x ≤ hi)
def placeB (e : Int) (p : TPlace) : Bool := ((inB p.From 0 (w64 (e - 1)) && inB p.To 0 (w64 (e - 1))) && inB p.Delay 0 1000) && inB p.Tokens 0 5
theorem spec_l11Place_ok (p : TPlace) (e : Int) : M.Conv (spec_l11Place p e) (placeB e p) :=
  M.Conv_bind (spec_l01In_ok _ _ _) (M.Conv_bind (Conv_and fun _ => spec_l01In_ok _ _ _) (M.Conv_bind (Conv_and fun _ => spec_l01In_ok _ _ _) (M.Conv_bind (Conv_and fun _ => spec_l01In_ok _ _ _) (M.Conv_ret _))))
theorem impl_isEvent_ok (g : TGraph) (e : Int) : M.Conv (impl_isEvent g e) (inB e 0 (w64 (g.Events - 1))) := M.Conv_bind (impl_within_ok _ _ _) (M.Conv_ret _)
theorem impl_isPlace_ok (g : TGraph) (p : TPlace) : M.Conv (impl_isPlace g p) (placeB g.Events p) :=
  M.Conv_bind (impl_isEvent_ok _ _) (M.Conv_bind (Conv_and fun _ => impl_isEvent_ok _ _) (M.Conv_bind (Conv_and fun _ => impl_within_ok _ _ _) (M.Conv_bind (Conv_and fun _ => impl_within_ok _ _ _) (M.Conv_ret _))))
def graphB (g : TGraph) : Bool := (inB g.Events 1 10 && decide (g.Places.length ≤ 30)) && g.Places.all (placeB g.Events)
/-- 'for i < len(l)', the counter a variable; a round may leave -/
def runO {α ρ : Type} (g : Nat → α → Option ρ) (e : ρ) : Nat → List α → ρ
  | _, [] => e
  | i, x :: xs => match g i x with | none => runO g e (i + 1) xs | some r => r
theorem Conv_while {α ρ : Type} {l : List α} {f : Int → M (Int ⊕ ρ)} (g : Nat → α → Option ρ) (e : ρ) (step : ∀ (i : Nat) x, l[i]? = some x → M.Conv (f i) (match g i x with | none => .inl ((i : Int) + 1) | some r => .inr r)) (stop : M.Conv (f (l.length : Int)) (.inr e)) :
    M.Conv (M.loop f 0) (runO g e 0 l) := by
  have key : ∀ (xs : List α) (i : Nat), (∀ (j : Nat) x, xs[j]? = some x → M.Conv (f (i + j : Nat)) (match g (i + j) x with | none => .inl (((i + j : Nat) : Int) + 1) | some r => .inr r)) → M.Conv (f (i + xs.length : Nat)) (.inr e) →
      ∃ N m0, ∀ n, N ≤ n → ∀ m, m0 ≤ m → M.loopN f n m (i : Int) = some (runO g e i xs) := by
    intro xs
    induction xs with
    | nil =>
      intro i _ ⟨N, h⟩
      refine ⟨N, 1, fun n hn m hm => ?_⟩
      obtain ⟨m, rfl⟩ : ∃ q, m = q + 1 := ⟨m - 1, by omega⟩
      have := h n hn
      simp only [List.length_nil, Nat.add_zero] at this
      simp [M.loopN, this, runO]
    | cons x xs ih =>
      intro i hs hst
      obtain ⟨N, h⟩ := hs 0 x rfl
      simp only [Nat.add_zero] at h
      cases hg : g i x with
      | none =>
        obtain ⟨N', m0, h'⟩ := ih (i + 1) (fun j y hy => by have := hs (j + 1) y (by simpa using hy); rw [show i + (j + 1) = i + 1 + j by omega] at this; exact this) (by rw [show i + 1 + xs.length = i + (x :: xs).length by simp; omega]; exact hst)
        refine ⟨max N N', m0 + 1, fun n hn m hm => ?_⟩
        obtain ⟨m, rfl⟩ : ∃ q, m = q + 1 := ⟨m - 1, by omega⟩
        have h1 := h n (by omega)
        rw [hg] at h1
        simp only [M.loopN, h1, runO, hg]
        exact h' n (by omega) m (by omega)
      | some r =>
        refine ⟨N, 1, fun n hn m hm => ?_⟩
        obtain ⟨m, rfl⟩ : ∃ q, m = q + 1 := ⟨m - 1, by omega⟩
        have h1 := h n hn
        rw [hg] at h1
        simp only [M.loopN, h1, runO, hg]
  obtain ⟨N, m0, h⟩ := key l 0 (fun j x hx => by simpa using step j x hx) (by simpa using stop)
  exact ⟨max N m0, fun n hn => h n (by omega) n (by omega)⟩
theorem runO_all {α ρ : Type} (p : α → Bool) (r e : ρ) : ∀ (l : List α) (i : Nat), runO (fun _ x => bif p x then none else some r) e i l = bif l.all p then e else r
  | [], _ => rfl
  | x :: xs, i => by
    simp only [runO, List.all_cons]
    cases p x with
    | true => simpa using runO_all p r e xs (i + 1)
    | false => rfl
theorem spec_IsEventGraph_ok {g : TGraph} (hl : g.Places.length ≤ 9223372036854775806) : M.Conv (spec_IsEventGraph g) (graphB g) := by
  unfold spec_IsEventGraph
  refine M.Conv_bind ((Conv_while (l := g.Places) (fun _ p => bif placeB g.Events p then none else some (.inr false)) (.inl (g.Places.length : Int)) (fun i p hp => ?_) ?_).of (runO_all _ _ _ _ _)) ?_
  · have hi := (List.getElem?_eq_some_iff.1 hp).1
    refine M.Conv_ite (fun _ => M.Conv_bind (M.Conv_get (by omega) (by simpa using hp)) (M.Conv_bind (spec_l11Place_ok _ _) (M.Conv_ite (fun q => ?_) (fun q => ?_)))) (fun q => by have := of_decide_eq_false q; omega)
    · simp only [Bool.not_eq_true'] at q; rw [q]; exact M.Conv_ret _
    · simp only [Bool.not_eq_false'] at q; rw [q]; exact (M.Conv_ret _).of (by rw [w64_eq _ (by omega)]; rfl)
  · exact M.Conv_ite (fun q => by have := of_decide_eq_true q; omega) (fun _ => M.Conv_ret _)
  · cases hb : g.Places.all (placeB g.Events) with
    | false => exact (M.Conv_ret _).of (by simp [graphB, hb])
    | true =>
      show M.Conv (M.bind (spec_l01In g.Events 1 10) (fun x4 => M.ret (x4 && (decide ((g.Places.length : Int) ≤ 30))))) _
      refine M.Conv_bind (spec_l01In_ok _ _ _) ((M.Conv_ret _).of ?_)
      simp only [graphB, hb, inB, Bool.and_true]
      rw [decide_eq_decide.2 (show (g.Places.length : Int) ≤ 30 ↔ g.Places.length ≤ 30 by omega)]
theorem impl_IsEventGraph_ok {g : TGraph} (hl : g.Places.length ≤ 9223372036854775806) : M.Conv (impl_IsEventGraph g) (graphB g) := by
  unfold impl_IsEventGraph slices_ContainsFunc_Place_F_impl_IsEventGraph_1 slices_IndexFunc_Place_F_impl_IsEventGraph_1
  refine M.Conv_bind (impl_within_ok _ _ _) (M.Conv_bind (x := graphB g) ?_ (M.Conv_ret _))
  have e : ((decide (1 ≤ g.Events) && decide (g.Events ≤ 10)) && decide ((g.Places.length : Int) ≤ 30)) = (inB g.Events 1 10 && decide (g.Places.length ≤ 30)) := by
    rw [decide_eq_decide.2 (show (g.Places.length : Int) ≤ 30 ↔ g.Places.length ≤ 30 by omega)]; rfl
  rw [e]
  refine M.Conv_ite (fun q => ?_) (fun q => (M.Conv_ret _).of (by simp [graphB, q]))
  refine M.Conv_bind (contains_ok (fun p => !placeB g.Events p) (by omega) fun i p hp => ?_) ((M.Conv_ret _).of ?_)
  · refine M.Conv_bind (M.Conv_get (by omega) (by simpa using hp)) (M.Conv_bind (x := !placeB g.Events p) (M.Conv_bind (impl_isPlace_ok _ _) (M.Conv_ret _)) ?_)
    cases placeB g.Events p <;> exact M.Conv_ret _
  · rw [any_not]; simp [graphB, q]
def widthN (a : List (List Int)) : Nat := (a.headD []).length
def matB (a : List (List Int)) : Bool := (decide (1 ≤ a.length) && decide (a.length ≤ 10)) && ((decide (1 ≤ widthN a) && decide (widthN a ≤ 10)) && a.all fun r => decide (r.length = widthN a) && r.all valB)
/-- a matrix of w columns -/
structure Mat (a : List (List Int)) (w : Nat) : Prop where
  rows : 1 ≤ a.length ∧ a.length ≤ 10
  cols : 1 ≤ w ∧ w ≤ 10
  row : ∀ r ∈ a, r.length = w ∧ ∀ x ∈ r, valB x = true
theorem Mat.head {a : List (List Int)} {w : Nat} (h : Mat a w) : ∃ r, a[0]? = some r ∧ r.length = w := by
  have := h.rows
  exact ⟨a[0], List.getElem?_eq_getElem (by omega), (h.row _ (List.getElem_mem (by omega))).1⟩
def foldI {α σ : Type} (g : Nat → α → σ → σ) : Nat → List α → σ → σ
  | _, [], s => s
  | i, x :: xs, s => foldI g (i + 1) xs (g i x s)
theorem val_cases {x : Int} (h : valB x = true) : x = -1000000000000000 ∨ (-1000000 ≤ x ∧ x ≤ 1000000) := by
  cases hb : (x == (-1000000000000000)) with
  | true => left; simpa using hb
  | false => right; exact finB_bd (val_ne h hb)
theorem Mat.get {a : List (List Int)} {w i : Nat} {row : List Int} (hm : Mat a w) (h : a[i]? = some row) {j : Nat} (hj : j < w) : M.Conv (M.idx row (j : Int)) ((row[j]?).getD 0) ∧ valB ((row[j]?).getD 0) = true := by
  obtain ⟨e1, e2⟩ := hm.row row (List.mem_of_getElem? h)
  rw [List.getElem?_eq_getElem (by omega)]
  exact ⟨M.Conv_get (by omega) (by simp [show j < row.length by omega]), e2 _ (List.getElem_mem _)⟩
theorem get_row {a : List (List Int)} {i : Nat} {row : List Int} (h : a[i]? = some row) : M.Conv (M.idx a (i : Int)) row := M.Conv_get (by omega) (by simpa using h)
def dotL (x row : List Int) : Int := foldI (fun j v s => mx s (timesI v ((x[j]?).getD 0))) 0 row (-1000000000000000)
theorem Conv_forV {σ : Type} {n : Nat} {f : Int → σ → M (σ ⊕ σ)} (val : Nat → σ) (hn : n ≤ 9223372036854775807) (h : ∀ i, i < n → M.Conv (f i (val i)) (.inl (val (i + 1)))) : M.Conv (M.forI 0 (n : Int) (fun s => s) f (val 0)) (val n) := by
  have := M.Conv_forI (l := List.range n) (f := f) (fin := fun s => s) (s := val 0) (ρ := σ) (fun i _ _ => .inl (val (i + 1))) (fun i s => s = val i) (by simpa using hn) rfl (fun i x s hx hs => by
    subst hs
    have hi := (List.getElem?_eq_some_iff.1 hx).1
    exact ⟨h i (by simpa using hi), fun s' e => by cases e; rfl⟩)
  simp only [List.length_range] at this
  refine this.of ?_
  have run : ∀ (m i : Nat), M.run (σ := σ) (ρ := σ) (fun i (_ : Nat) _ => .inl (val (i + 1))) (fun s => s) i (List.range m) (val i) = val (i + m) := by
    have g : ∀ (l : List Nat) (i : Nat), M.run (σ := σ) (ρ := σ) (fun i (_ : Nat) _ => .inl (val (i + 1))) (fun s => s) i l (val i) = val (i + l.length) := by
      intro l
      induction l with
      | nil => intro i; rfl
      | cons x xs ih => intro i; simp only [M.run, List.length_cons]; rw [ih (i + 1)]; congr 1; omega
    intro m i
    rw [g, List.length_range]
  simpa using run n 0
def ConvL {σ ρ : Type} (f : σ → M (σ ⊕ ρ)) (s : σ) (r : ρ) : Prop := ∃ N m0, ∀ n, N ≤ n → ∀ m, m0 ≤ m → M.loopN f n m s = some r
theorem ConvL.conv {σ ρ : Type} {f : σ → M (σ ⊕ ρ)} {s : σ} {r : ρ} (h : ConvL f s r) : M.Conv (M.loop f s) r := by
  obtain ⟨N, m0, h⟩ := h
  exact ⟨max N m0, fun n hn => h n (by omega) n (by omega)⟩
theorem ConvL.step {σ ρ : Type} {f : σ → M (σ ⊕ ρ)} {s s' : σ} {r : ρ} (h1 : M.Conv (f s) (.inl s')) (h : ConvL f s' r) : ConvL f s r := by
  obtain ⟨N, h1⟩ := h1
  obtain ⟨N', m0, h⟩ := h
  refine ⟨max N N', m0 + 1, fun n hn m hm => ?_⟩
  obtain ⟨m, rfl⟩ : ∃ q, m = q + 1 := ⟨m - 1, by omega⟩
  simp only [M.loopN, h1 n (by omega)]
  exact h n (by omega) m (by omega)
theorem ConvL.stop {σ ρ : Type} {f : σ → M (σ ⊕ ρ)} {s : σ} {r : ρ} (h1 : M.Conv (f s) (.inr r)) : ConvL f s r := by
  obtain ⟨N, h1⟩ := h1
  refine ⟨N, 1, fun n hn m hm => ?_⟩
  obtain ⟨m, rfl⟩ : ∃ q, m = q + 1 := ⟨m - 1, by omega⟩
  simp only [M.loopN, h1 n hn]
def entA (a : List (List Int)) (i j : Nat) : Int := (((a[i]?).getD [])[j]?).getD 0
/-- an entry for p rows: no assignment, or a weight and a number of them -/
def EntP (p : Nat) (e : Int × Int) : Prop := e = (-1000000000000000, 0) ∨ (-(1000000 * (p : Int)) ≤ e.1 ∧ e.1 ≤ 1000000 * p ∧ 1 ≤ e.2 ∧ e.2 ≤ 10 ^ p)
theorem ent_val {a : List (List Int)} {n i j : Nat} (hm : Mat a n) (hi : i < a.length) (hj : j < n) : M.Conv (M.idx a (i : Int)) a[i] ∧ M.Conv (M.idx a[i] (j : Int)) (entA a i j) ∧ valB (entA a i j) = true := by
  have hr : a[i]? = some a[i] := List.getElem?_eq_getElem hi
  obtain ⟨g1, g2⟩ := hm.get hr hj
  have e : entA a i j = (a[i][j]?).getD 0 := by simp only [entA, hr, Option.getD_some]
  rw [e]
  exact ⟨get_row hr, g1, g2⟩
theorem EntP.weight {p : Nat} {e : Int × Int} (h : EntP p e) (hp : p ≤ 9) : e.1 = -1000000000000000 ∨ (-10000000 ≤ e.1 ∧ e.1 ≤ 10000000) := by
  rcases h with rfl | ⟨h1, h2, _⟩
  · exact .inl rfl
  · exact .inr ⟨by omega, by omega⟩
def tab {α : Type} (n : Nat) (h : Nat → α) : List α := (List.range n).map h
theorem tab_len {α : Type} (n : Nat) (h : Nat → α) : (tab n h).length = n := by simp [tab]
theorem tab_get {α : Type} {n i : Nat} {h : Nat → α} (hi : i < n) : (tab n h)[i]? = some (h i) := by simp [tab, List.getElem?_range hi]
theorem tab_none {α : Type} {n i : Nat} {h : Nat → α} (hi : n ≤ i) : (tab n h)[i]? = none := List.getElem?_eq_none (by rw [tab_len]; exact hi)
theorem tab_ext {α : Type} {n : Nat} {h : Nat → α} {l : List α} (hl : l.length = n) (e : ∀ i, i < n → l[i]? = some (h i)) : l = tab n h := by
  apply List.ext_getElem?
  intro i
  by_cases hi : i < n
  · rw [e i hi, tab_get hi]
  · rw [tab_none (by omega), List.getElem?_eq_none (by omega)]
theorem tab_congr {α : Type} {n : Nat} {h g : Nat → α} (e : ∀ i, i < n → h i = g i) : tab n h = tab n g := by
  refine tab_ext (tab_len _ _) fun i hi => ?_
  rw [tab_get hi, e i hi]
theorem tab_set {α : Type} {n i : Nat} {h g : Nat → α} {v : α} (hv : v = g i) (e : ∀ p, p < n → p ≠ i → h p = g p) : (tab n h).set i v = tab n g := by
  refine tab_ext (by rw [List.length_set, tab_len]) fun p hp => ?_
  rw [List.getElem?_set]
  by_cases q : i = p
  · subst q; rw [if_pos rfl, if_pos (by rw [tab_len]; exact hp), hv]
  · rw [if_neg q, tab_get hp, e p hp (fun c => q c.symm)]
theorem tab_snoc {α : Type} (n : Nat) (h : Nat → α) : tab n h ++ [h n] = tab (n + 1) h := by simp [tab, List.range_succ]
theorem idx_tab {α : Type} {n i : Nat} {h : Nat → α} (hi : i < n) : M.Conv (M.idx (tab n h) (i : Int)) (h i) := M.Conv_idx (tab_get hi)
def matF (m n : Nat) (f : Nat → Nat → Int) : List (List Int) := tab m fun i => tab n (f i)
theorem matF_len (m n : Nat) (f : Nat → Nat → Int) : (matF m n f).length = m := tab_len _ _
theorem matF_congr {m n : Nat} {f g : Nat → Nat → Int} (e : ∀ i j, i < m → j < n → f i j = g i j) : matF m n f = matF m n g := tab_congr fun i hi => tab_congr fun j hj => e i j hi hj
structure Shp (a : List (List Int)) (w : Nat) : Prop where
  rows : 1 ≤ a.length ∧ a.length ≤ 10
  cols : 1 ≤ w ∧ w ≤ 10
  row : ∀ r ∈ a, r.length = w
theorem Mat.shp {a : List (List Int)} {w : Nat} (hm : Mat a w) : Shp a w := ⟨hm.rows, hm.cols, fun r hr => (hm.row r hr).1⟩
theorem mat_eq {a : List (List Int)} {w : Nat} (hm : Shp a w) : a = matF a.length w (entA a) := by
  refine tab_ext rfl fun i hi => ?_
  have hr : a[i]? = some a[i] := List.getElem?_eq_getElem hi
  rw [hr]
  have hl := hm.row _ (List.mem_of_getElem? hr)
  congr 1
  refine tab_ext hl fun j hj => ?_
  have : a[i][j]? = some (a[i][j]'(by omega)) := List.getElem?_eq_getElem _
  rw [this]
  simp only [entA, hr, Option.getD_some, this]
theorem entA_matF {m n i j : Nat} {f : Nat → Nat → Int} (hi : i < m) (hj : j < n) : entA (matF m n f) i j = f i j := by
  simp only [entA, matF, tab_get hi, Option.getD_some, tab_get hj]
theorem shp_of {m n : Nat} {f : Nat → Nat → Int} (h1 : 1 ≤ m ∧ m ≤ 10) (h2 : 1 ≤ n ∧ n ≤ 10) : Shp (matF m n f) n := by
  refine ⟨by rw [matF_len]; exact h1, h2, fun r hr => ?_⟩
  simp only [matF, tab, List.mem_map, List.mem_range] at hr
  obtain ⟨i, hi, rfl⟩ := hr
  simp
theorem ent_read {a : List (List Int)} {w i j : Nat} (hm : Shp a w) (hi : i < a.length) (hj : j < w) : ∃ r, M.Conv (M.idx a (i : Int)) r ∧ r.length = w ∧ M.Conv (M.idx r (j : Int)) (entA a i j) := by
  have hr : a[i]? = some a[i] := List.getElem?_eq_getElem hi
  have hl := hm.row _ (List.mem_of_getElem? hr)
  have h2 : a[i][j]? = some (a[i][j]'(by omega)) := List.getElem?_eq_getElem _
  refine ⟨_, get_row hr, hl, (M.Conv_idx h2).of ?_⟩
  simp only [entA, hr, Option.getD_some, h2]
theorem spec_l02Bottom_ok {m n : Nat} (hm : m ≤ 1048576) (hn : n ≤ 1048576) : M.Conv (spec_l02Bottom (m : Int) (n : Int)) (matF m n fun _ _ => -1000000000000000) := by
  unfold spec_l02Bottom
  refine M.Conv_bind (Conv_forV (fun i => tab i fun _ => tab n fun _ => (-1000000000000000 : Int)) (by omega) fun i hi => ?_) (M.Conv_ret _)
  refine M.Conv_bind (Conv_forV (fun j => tab j fun _ => (-1000000000000000 : Int)) (by omega) fun j hj => ?_) ?_
  · exact M.Conv_bind (M.Conv_app (by simp [tab_len]; omega)) ((M.Conv_ret _).of (congrArg Sum.inl (tab_snoc _ _)))
  · exact M.Conv_bind (M.Conv_app (by simp [tab_len]; omega)) ((M.Conv_ret _).of (congrArg Sum.inl (tab_snoc i _)))
/-- one entry set -/
theorem matF_set {m n i j : Nat} {f g : Nat → Nat → Int} (e : ∀ p q, p < m → q < n → ¬(p = i ∧ q = j) → f p q = g p q) : (matF m n f).set i ((tab n (f i)).set j (g i j)) = matF m n g := by
  by_cases hi : i < m
  · refine tab_set (tab_set rfl fun q hq hne => e i q hi hq (by omega)) fun p hp hne => tab_congr fun q hq => e p q hp hq (by omega)
  · rw [List.set_eq_of_length_le (by rw [matF_len]; omega)]
    exact matF_congr fun p q hp hq => e p q hp hq (by omega)
theorem matB_shp {a : List (List Int)} {w : Nat} (h : Shp a w) : matB a = a.all fun r => r.all valB := by
  have h1 := h.rows
  have h2 := h.cols
  have hw : widthN a = w := by
    unfold widthN
    cases a with
    | nil => simp at h1
    | cons r rs => exact h.row r (by simp)
  unfold matB
  rw [hw, decide_eq_true h1.1, decide_eq_true h1.2, decide_eq_true h2.1, decide_eq_true h2.2]
  simp only [Bool.true_and]
  rw [Bool.eq_iff_iff, List.all_eq_true, List.all_eq_true]
  refine ⟨fun H r hr => ?_, fun H r hr => ?_⟩
  · have := H r hr; simp only [Bool.and_eq_true] at this; exact this.2
  · rw [decide_eq_true (h.row r hr), Bool.true_and]; exact H r hr
def colL (b : List (List Int)) (i : Nat) : List Int := tab b.length fun j => entA b j i
theorem Conv_or {b v : Bool} {m : M Bool} (h : b = false → M.Conv m v) : M.Conv (M.ite b (M.ret true) m) (b || v) := by
  cases b with
  | true => exact M.Conv_ite (fun _ => M.Conv_ret _) (fun t => by simp at t)
  | false => exact M.Conv_ite (fun t => by simp at t) (fun _ => h rfl)
def Rel {α β : Type} (m : M α) (m' : M β) (Q : α → β → Prop) : Prop := ∃ r r', M.Conv m r ∧ M.Conv m' r' ∧ Q r r'
theorem Rel.of {α β : Type} {m : M α} {m' : M β} {Q : α → β → Prop} {r : α} {r' : β} (h : M.Conv m r) (h' : M.Conv m' r') (q : Q r r') : Rel m m' Q := ⟨r, r', h, h', q⟩
theorem Rel.bind {α β γ δ : Type} {m : M α} {m' : M β} {f : α → M γ} {f' : β → M δ} {P : α → β → Prop} {Q : γ → δ → Prop} (h : Rel m m' P) (g : ∀ x x', P x x' → Rel (f x) (f' x') Q) : Rel (M.bind m f) (M.bind m' f') Q := by
  obtain ⟨x, x', h1, h2, p⟩ := h
  obtain ⟨r, r', g1, g2, q⟩ := g x x' p
  exact ⟨r, r', M.Conv_bind h1 g1, M.Conv_bind h2 g2, q⟩
theorem Rel.left {α γ δ : Type} {m : M α} {f : α → M γ} {m' : M δ} {Q : γ → δ → Prop} {x : α} (h : M.Conv m x) (g : Rel (f x) m' Q) : Rel (M.bind m f) m' Q := by
  obtain ⟨r, r', g1, g2, q⟩ := g
  exact ⟨r, r', M.Conv_bind h g1, g2, q⟩
theorem Rel.right {α γ δ : Type} {m : M α} {f : α → M γ} {m' : M δ} {Q : δ → γ → Prop} {x : α} (h : M.Conv m x) (g : Rel m' (f x) Q) : Rel m' (M.bind m f) Q := by
  obtain ⟨r, r', g1, g2, q⟩ := g
  exact ⟨r, r', g1, M.Conv_bind h g2, q⟩
theorem Rel.two {α : Type} {m m' : M α} {P : α → Prop} (h : Rel m m' fun x y => x = y ∧ P x) : Two m m' P := by
  obtain ⟨r, r', h1, h2, rfl, p⟩ := h
  exact ⟨r, h1, h2, p⟩
theorem Rel.mono {α β : Type} {m : M α} {m' : M β} {P Q : α → β → Prop} (h : Rel m m' P) (g : ∀ x y, P x y → Q x y) : Rel m m' Q := by
  obtain ⟨r, r', h1, h2, p⟩ := h
  exact ⟨r, r', h1, h2, g _ _ p⟩
theorem Rel.iteL {α β : Type} {b : Bool} {x y : M α} {m' : M β} {Q : α → β → Prop} (h1 : b = true → Rel x m' Q) (h2 : b = false → Rel y m' Q) : Rel (M.ite b x y) m' Q := by
  cases b
  · obtain ⟨r, r', g1, g2, q⟩ := h2 rfl
    exact ⟨r, r', M.Conv_ite (fun t => by simp at t) (fun _ => g1), g2, q⟩
  · obtain ⟨r, r', g1, g2, q⟩ := h1 rfl
    exact ⟨r, r', M.Conv_ite (fun _ => g1) (fun t => by simp at t), g2, q⟩
theorem Rel.iteR {α β : Type} {b : Bool} {x y : M β} {m' : M α} {Q : α → β → Prop} (h1 : b = true → Rel m' x Q) (h2 : b = false → Rel m' y Q) : Rel m' (M.ite b x y) Q := by
  cases b
  · obtain ⟨r, r', g1, g2, q⟩ := h2 rfl
    exact ⟨r, r', g1, M.Conv_ite (fun t => by simp at t) (fun _ => g2), q⟩
  · obtain ⟨r, r', g1, g2, q⟩ := h1 rfl
    exact ⟨r, r', g1, M.Conv_ite (fun _ => g2) (fun t => by simp at t), q⟩
theorem Rel.ite {α β : Type} {b b' : Bool} {x y : M α} {x' y' : M β} {Q : α → β → Prop} (e : b = b') (h1 : b = true → Rel x x' Q) (h2 : b = false → Rel y y' Q) : Rel (M.ite b x y) (M.ite b' x' y') Q := by
  subst e
  exact Rel.iteL (fun t => Rel.iteR (fun _ => h1 t) (fun t' => by rw [t] at t'; cases t')) (fun t => Rel.iteR (fun t' => by rw [t] at t'; cases t') (fun _ => h2 t))
theorem Rel.ret {α β : Type} {x : α} {y : β} {Q : α → β → Prop} (q : Q x y) : Rel (M.ret x) (M.ret y) Q := ⟨x, y, M.Conv_ret _, M.Conv_ret _, q⟩
/-- one round of two loops: both go on, or both stop -/
def Round {σ σ' ρ ρ' : Type} (R : σ → σ' → Prop) (Q : ρ → ρ' → Prop) (y : σ ⊕ ρ) (y' : σ' ⊕ ρ') : Prop := (∃ t t', y = .inl t ∧ y' = .inl t' ∧ R t t') ∨ (∃ r r', y = .inr r ∧ y' = .inr r' ∧ Q r r')
theorem Round.on {σ σ' ρ ρ' : Type} {R : σ → σ' → Prop} {Q : ρ → ρ' → Prop} {t : σ} {t' : σ'} (h : R t t') : Round R Q (.inl t) (.inl t') := .inl ⟨t, t', rfl, rfl, h⟩
theorem Rel.for {σ σ' ρ ρ' : Type} {n : Nat} {f : Int → σ → M (σ ⊕ ρ)} {f' : Int → σ' → M (σ' ⊕ ρ')} {fin : σ → ρ} {fin' : σ' → ρ'} {s : σ} {s' : σ'} {Q : ρ → ρ' → Prop} (R : Nat → σ → σ' → Prop) (hn : n ≤ 9223372036854775807) (h0 : R 0 s s')
    (step : ∀ (i : Nat) t t', i < n → R i t t' → Rel (f i t) (f' i t') (Round (R (i + 1)) Q)) (stop : ∀ t t', R n t t' → Q (fin t) (fin' t')) : Rel (M.forI 0 (n : Int) fin f s) (M.forI 0 (n : Int) fin' f' s') Q := by
  have H : ∀ (d i : Nat) t t', i + d = n → R i t t' → ∃ r r', (∃ N, ∀ m, N ≤ m → M.forN (n : Int) fin f m d (i : Int) t = some r) ∧ (∃ N, ∀ m, N ≤ m → M.forN (n : Int) fin' f' m d (i : Int) t' = some r') ∧ Q r r' := by
    intro d
    induction d with
    | zero =>
      intro i t t' e hR
      obtain rfl : i = n := by omega
      exact ⟨fin t, fin' t', ⟨0, fun m _ => by simp [M.forN]⟩, ⟨0, fun m _ => by simp [M.forN]⟩, stop t t' hR⟩
    | succ d ih =>
      intro i t t' e hR
      have hlt : (i : Int) < n := by omega
      obtain ⟨y, y', ⟨N, hy⟩, ⟨N', hy'⟩, hc⟩ := step i t t' (by omega) hR
      rcases hc with ⟨u, u', rfl, rfl, hR⟩ | ⟨r, r', rfl, rfl, hq⟩
      · obtain ⟨r, r', ⟨K, hr⟩, ⟨K', hr'⟩, hq⟩ := ih (i + 1) u u' (by omega) hR
        rw [Int.natCast_add] at hr hr'
        refine ⟨r, r', ⟨max N K, fun m hm => ?_⟩, ⟨max N' K', fun m hm => ?_⟩, hq⟩
        · simp [M.forN, hlt, hy m (by omega)]; exact hr m (by omega)
        · simp [M.forN, hlt, hy' m (by omega)]; exact hr' m (by omega)
      · exact ⟨r, r', ⟨N, fun m hm => by simp [M.forN, hlt, hy m hm]⟩, ⟨N', fun m hm => by simp [M.forN, hlt, hy' m hm]⟩, hq⟩
  obtain ⟨r, r', ⟨N, h1⟩, ⟨N', h2⟩, q⟩ := H n 0 s s' (by omega) h0
  refine ⟨r, r', ⟨N, fun m hm => ?_⟩, ⟨N', fun m hm => ?_⟩, q⟩
  · have := h1 m hm; have hn' : (n : Int) ≤ 9223372036854775807 := by omega
    simp [M.forI, hn']; exact this
  · have := h2 m hm; have hn' : (n : Int) ≤ 9223372036854775807 := by omega
    simp [M.forI, hn']; exact this
/-- a loop with a round count on the left, any loop on the right -/
theorem Rel.loop {σ σ' ρ ρ' : Type} {f : σ → M (σ ⊕ ρ)} {f' : σ' → M (σ' ⊕ ρ')} {s : σ} {s' : σ'} {Q : ρ → ρ' → Prop} (R : σ → σ' → Prop) (μ : σ → Nat) (h0 : R s s')
    (step : ∀ t t', R t t' → Rel (f t) (f' t') (Round (fun u u' => R u u' ∧ μ u < μ t) Q)) : Rel (M.loop f s) (M.loop f' s') Q := by
  have H : ∀ (d : Nat) t t', μ t < d → R t t' → ∃ r r', ConvL f t r ∧ ConvL f' t' r' ∧ Q r r' := by
    intro d
    induction d with
    | zero => intro t t' h; omega
    | succ d ih =>
      intro t t' h hR
      obtain ⟨y, y', hy, hy', hc⟩ := step t t' hR
      rcases hc with ⟨u, u', rfl, rfl, hR, hlt⟩ | ⟨r, r', rfl, rfl, hq⟩
      · obtain ⟨r, r', k1, k2, q⟩ := ih u u' (by omega) hR
        exact ⟨r, r', k1.step hy, k2.step hy', q⟩
      · exact ⟨r, r', ConvL.stop hy, ConvL.stop hy', hq⟩
  obtain ⟨r, r', h1, h2, q⟩ := H (μ s + 1) s s' (by omega) h0
  exact ⟨r, r', h1.conv, h2.conv, q⟩

def nd (l : List Int) (i : Nat) : Int := (l[i]?).getD 0
def OkNodes (n : Nat) (l : List Int) : Prop := ∀ i, i < l.length → (0 ≤ nd l i ∧ nd l i ≤ (n : Int) - 1) ∧ (0 < i → nd l (i - 1) < nd l i)
theorem OkNodes.len {n : Nat} {l : List Int} (h : OkNodes n l) : l.length ≤ n := by
  have key : ∀ i, i < l.length → (i : Int) ≤ nd l i := by
    intro i
    induction i with
    | zero => intro hi; have := (h 0 hi).1; omega
    | succ i ih => intro hi; have := (h (i + 1) hi).2 (by omega); have := ih (by omega); simp only [Nat.add_sub_cancel] at *; omega
  by_cases e : l.length = 0
  · omega
  · have := key (l.length - 1) (by omega)
    have := (h (l.length - 1) (by omega)).1
    omega
structure ByC (code : List Int) : Prop where
  len : code.length ≤ 4096
  byte : ∀ x ∈ code, 0 ≤ x ∧ x ≤ 255
/-- what a drawn matrix is at least: not large, of numbers -/
structure MatS (a : List (List Int)) : Prop where
  rows : a.length ≤ 11
  row : ∀ r ∈ a, r.length ≤ 10 ∧ ∀ x ∈ r, inI64 x
theorem MatS.of {m n : Nat} {f : Nat → Nat → Int} (hm : m ≤ 10) (hn : n ≤ 10) (hf : ∀ i j, inI64 (f i j)) : MatS (matF m n f) := by
  refine ⟨by rw [matF_len]; omega, fun r hr => ?_⟩
  simp only [matF, tab, List.mem_map, List.mem_range] at hr
  obtain ⟨i, hi, rfl⟩ := hr
  refine ⟨by simp; omega, fun x hx => ?_⟩
  simp only [List.mem_map, List.mem_range] at hx
  obtain ⟨j, hj, rfl⟩ := hx
  exact hf i j
structure VecS (x : List Int) : Prop where
  len : x.length ≤ 20
  mem : ∀ v ∈ x, inI64 v
theorem VecS.snoc {x : List Int} {v : Int} (h : VecS x) (hl : x.length ≤ 19) (hv : inI64 v) : VecS (x ++ [v]) := ⟨by simp; omega, fun y hy => by
  rcases List.mem_append.1 hy with hy | hy
  · exact h.mem y hy
  · simp at hy; subst hy; exact hv⟩
theorem VecS.set {x : List Int} {v : Int} (i : Nat) (h : VecS x) (hv : inI64 v) : VecS (x.set i v) := ⟨by rw [List.length_set]; exact h.len, fun y hy => by
  rcases List.mem_or_eq_of_mem_set hy with hy | hy
  · exact h.mem y hy
  · subst hy; exact hv⟩
theorem foldI_at {σ α : Type} {g : Nat → α → σ → σ} {a : List α} (J : Nat → σ → Prop) : ∀ (l : List α) (i : Nat) (s : σ), (∀ k, l[k]? = a[i + k]?) → J i s → (∀ k x s, a[k]? = some x → J k s → J (k + 1) (g k x s)) → J (i + l.length) (foldI g i l s)
  | [], i, s, _, h, _ => h
  | x :: xs, i, s, hl, h, step => by
    have h0 : a[i]? = some x := by have := hl 0; simpa using this.symm
    have := foldI_at J xs (i + 1) (g i x s) (fun k => by have := hl (k + 1); simp only [List.getElem?_cons_succ] at this; rw [this]; congr 1; omega) (step i x s h0 h) step
    rw [show i + (x :: xs).length = i + 1 + xs.length by simp; omega]
    exact this
theorem ent_at {a : List (List Int)} {i j : Nat} {row : List Int} (h : a[i]? = some row) : entA a i j = (row[j]?).getD 0 := by simp only [entA, h, Option.getD_some]
theorem val_ent {a : List (List Int)} {w i j : Nat} (hm : Mat a w) (hi : i < a.length) (hj : j < w) : entA a i j = -1000000000000000 ∨ (-1000000 ≤ entA a i j ∧ entA a i j ≤ 1000000) := val_cases (ent_val hm hi hj).2.2
theorem ByC.of {code : List Int} (h : fitL inU8 code) (hb : decide (4096 < (code.length : Int)) = false) : ByC code := ⟨by have := of_decide_eq_false hb; omega, fun x hx => h.2 x hx⟩
def co (c : List Int) (i : Nat) : Int := (c[i]?).getD (-1000000000000000)
theorem co_get {c : List Int} {i : Nat} (h : i < c.length) : c[i]? = some (co c i) := by
  unfold co; rw [List.getElem?_eq_getElem h]; rfl
theorem co_out {c : List Int} {i : Nat} (h : c.length ≤ i) : co c i = -1000000000000000 := by
  unfold co; rw [List.getElem?_eq_none h]; rfl
theorem co_val {c : List Int} (hv : c.all valB = true) (i : Nat) : co c i = -1000000000000000 ∨ -1000000 ≤ co c i ∧ co c i ≤ 1000000 := by
  by_cases hi : i < c.length
  · rw [List.all_eq_true] at hv
    exact val_cases (hv _ (List.mem_of_getElem? (co_get hi)))
  · exact .inl (co_out (by omega))
theorem times_co {a p : Int} (h : a ≠ -1000000000000000) (ha : -1000000 ≤ a ∧ a ≤ 1000000) (hp : -1000000 ≤ p ∧ p ≤ 1000000) : timesI a p = a + p := by
  simp only [timesI]
  rw [show (a == (-1000000000000000)) = false by simpa using h, show (p == (-1000000000000000)) = false by simp; omega]
  exact w64_eq _ (by omega)
theorem times_bot (p : Int) : timesI (-1000000000000000) p = -1000000000000000 := by simp [timesI]
structure IsEv (c : List Int) (x v : Int) : Prop where
  up : ∀ i : Nat, co c i ≠ -1000000000000000 → co c i + i * x ≤ v
  on : ∃ i : Nat, co c i ≠ -1000000000000000 ∧ v = co c i + i * x
theorem IsEv.unique {c : List Int} {x v w : Int} (h : IsEv c x v) (g : IsEv c x w) : v = w := by
  obtain ⟨i, h1, h2⟩ := h.on
  obtain ⟨k, g1, g2⟩ := g.on
  have := h.up k g1
  have := g.up i h1
  omega
structure PartP (c d : List Int) (n i k : Nat) (s : List Int) : Prop where
  len : s.length = n
  up : ∀ p q : Nat, (p < i ∨ p = i ∧ q < k) → co c p ≠ -1000000000000000 → co d q ≠ -1000000000000000 → co c p + co d q ≤ co s (p + q)
  on : ∀ m : Nat, co s m = -1000000000000000 ∨ ∃ p q : Nat, p + q = m ∧ co c p ≠ -1000000000000000 ∧ co d q ≠ -1000000000000000 ∧ co s m = co c p + co d q
theorem co_set {s : List Int} {i m : Nat} {v : Int} (hi : i < s.length) : co (s.set i v) m = if m = i then v else co s m := by
  unfold co
  by_cases e : m = i
  · subst e; rw [if_pos rfl, List.getElem?_set_self hi]; rfl
  · rw [if_neg e, List.getElem?_set_ne (by omega)]
theorem PartP.step {c d s : List Int} {n i k : Nat} (hc : c.all valB = true) (hd : d.all valB = true) (h : PartP c d n i k s) (hn : i + k < n) : PartP c d n i (k + 1) (s.set (i + k) (mx (co s (i + k)) (timesI (co c i) (co d k)))) := by
  have hlt : i + k < s.length := by rw [h.len]; exact hn
  have vc := co_val hc i
  have vd := co_val hd k
  have vs : co s (i + k) = -1000000000000000 ∨ -2000000 ≤ co s (i + k) := by
    rcases h.on (i + k) with e | ⟨p, q, _, h1, h2, e⟩
    · exact .inl e
    · have := co_val hc p
      have := co_val hd q
      omega
  -- the new coefficient
  have hz : (mx (co s (i + k)) (timesI (co c i) (co d k)) = co s (i + k) ∧ (co c i = -1000000000000000 ∨ co d k = -1000000000000000 ∨ co c i + co d k ≤ co s (i + k))) ∨ (mx (co s (i + k)) (timesI (co c i) (co d k)) = co c i + co d k ∧ co c i ≠ -1000000000000000 ∧ co d k ≠ -1000000000000000 ∧ co s (i + k) ≤ co c i + co d k) := by
    rw [mx_eq]
    by_cases e1 : co c i = -1000000000000000
    · rw [e1, times_bot]; left; omega
    · by_cases e2 : co d k = -1000000000000000
      · rw [e2, show timesI (co c i) (-1000000000000000) = -1000000000000000 by simp [timesI]]; left; omega
      · rw [times_co e1 (by omega) (by omega)]
        by_cases e3 : co c i + co d k ≤ co s (i + k)
        · left; omega
        · right; omega
  refine ⟨by rw [List.length_set]; exact h.len, fun p q hpq h1 h2 => ?_, fun m => ?_⟩
  · rw [co_set hlt]
    by_cases e : p + q = i + k
    · rw [if_pos e]
      by_cases e2 : p = i ∧ q = k
      · obtain ⟨rfl, rfl⟩ := e2; omega
      · have := h.up p q (by omega) h1 h2
        rw [e] at this
        omega
    · rw [if_neg e]
      exact h.up p q (by omega) h1 h2
  · rw [co_set hlt]
    by_cases e : m = i + k
    · rw [if_pos e]
      rcases hz with ⟨hz, _⟩ | ⟨hz, h1, h2, _⟩
      · rw [hz]
        have := h.on m
        rw [e] at this ⊢
        exact this
      · exact .inr ⟨i, k, e.symm, h1, h2, hz⟩
    · rw [if_neg e]; exact h.on m
theorem shp_width {a : List (List Int)} {w : Nat} (h : Shp a w) : widthN a = w := by
  have h1 := h.rows
  unfold widthN
  cases a with
  | nil => simp at h1
  | cons r rs => exact h.row r (by simp)
theorem mat_matB {a : List (List Int)} {w : Nat} (h : Mat a w) : matB a = true := by
  rw [matB_shp h.shp, List.all_eq_true]
  intro r hr
  rw [List.all_eq_true]
  exact (h.row r hr).2
structure DotP (u v : Nat → Int) (n : Nat) (s : Int) : Prop where
  up : ∀ j, j < n → u j ≠ -1000000000000000 → v j ≠ -1000000000000000 → u j + v j ≤ s
  on : s = -1000000000000000 ∨ ∃ j, j < n ∧ u j ≠ -1000000000000000 ∧ v j ≠ -1000000000000000 ∧ s = u j + v j
def Bd (B : Int) (x : Int) : Prop := x = -1000000000000000 ∨ (-B ≤ x ∧ x ≤ B)
theorem DotP.unique {u v : Nat → Int} {n : Nat} {s t : Int} (hu : ∀ j, j < n → Bd 2000000 (u j)) (hv : ∀ j, j < n → Bd 2000000 (v j)) (h : DotP u v n s) (g : DotP u v n t) : s = t := by
  have key : ∀ {s t : Int}, DotP u v n s → DotP u v n t → t ≤ s := fun {s t} h g => by
    rcases g.on with e | ⟨j, hj, h1, h2, e⟩
    · rcases h.on with e' | ⟨j, hj, h1, h2, e'⟩
      · omega
      · have b1 := hu j hj
        have b2 := hv j hj
        unfold Bd at b1 b2
        omega
    · have := h.up j hj h1 h2
      omega
  have := key h g
  have := key g h
  omega
theorem nd_of {l : List Int} {i : Nat} {x : Int} (h : l[i]? = some x) : nd l i = x := by unfold nd; rw [h]; rfl
theorem dotL_ok {x row : List Int} (hl : x.length = row.length) (hr : ∀ j, j < row.length → Bd 2000000 (nd row j)) (hx : ∀ j, j < row.length → Bd 2000000 (nd x j)) : DotP (nd row) (nd x) row.length (dotL x row) := by
  have key := foldI_at (g := fun j v s => mx s (timesI v ((x[j]?).getD 0))) (a := row) (fun k (s : Int) => k ≤ row.length ∧ -1000000000000000 ≤ s ∧ (∀ j, j < k → nd row j ≠ -1000000000000000 → nd x j ≠ -1000000000000000 → nd row j + nd x j ≤ s) ∧ (s = -1000000000000000 ∨ ∃ j, j < k ∧ nd row j ≠ -1000000000000000 ∧ nd x j ≠ -1000000000000000 ∧ s = nd row j + nd x j)) row 0 (-1000000000000000) (fun k => by simp) ⟨by omega, by omega, fun j hj => by omega, .inl rfl⟩ (fun k v s hv hI => by
    obtain ⟨_, i1, i2, i3⟩ := hI
    have hk := (List.getElem?_eq_some_iff.1 hv).1
    have ev := nd_of hv
    have b1 := hr k hk
    have b2 := hx k hk
    unfold Bd at b1 b2
    have et : timesI v ((x[k]?).getD 0) = bif (v == (-1000000000000000)) || (nd x k == (-1000000000000000)) then -1000000000000000 else v + nd x k := by
      change timesI v (nd x k) = _
      unfold timesI
      cases hz : ((v == (-1000000000000000)) || (nd x k == (-1000000000000000))) with
      | true => rfl
      | false =>
        simp only [Bool.or_eq_false_iff, beq_eq_false_iff_ne, ne_eq] at hz
        simp only [cond_false]
        exact w64_eq _ (by omega)
    refine ⟨by omega, by rw [mx_eq]; omega, fun j hj h1 h2 => ?_, ?_⟩
    · rw [mx_eq]
      by_cases e : j = k
      · subst e
        rw [et, show (v == (-1000000000000000)) = false by rw [← ev]; simpa using h1, show (nd x j == (-1000000000000000)) = false by simpa using h2]
        simp only [Bool.or_self, cond_false]; omega
      · have := i2 j (by omega) h1 h2
        omega
    · rw [mx_eq, et]
      have old : s = -1000000000000000 ∨ ∃ j, j < k + 1 ∧ nd row j ≠ -1000000000000000 ∧ nd x j ≠ -1000000000000000 ∧ s = nd row j + nd x j := i3.imp id fun ⟨j, hj, h⟩ => ⟨j, by omega, h⟩
      cases hz : ((v == (-1000000000000000)) || (nd x k == (-1000000000000000))) with
      | true =>
        simp only [cond_true]
        rw [show max s (-1000000000000000) = s by omega]
        exact old
      | false =>
        simp only [Bool.or_eq_false_iff, beq_eq_false_iff_ne, ne_eq] at hz
        simp only [cond_false]
        by_cases e : s ≤ v + nd x k
        · rw [show max s (v + nd x k) = v + nd x k by omega]
          exact .inr ⟨k, by omega, by rw [ev]; exact hz.1, hz.2, by rw [ev]⟩
        · rw [show max s (v + nd x k) = s by omega]
          exact old)
  obtain ⟨_, _, k2, k3⟩ := key
  rw [Nat.zero_add] at k2 k3
  exact ⟨k2, k3⟩
def rowN (a : List (List Int)) (i : Nat) : List Int := (a[i]?).getD []
theorem rowN_get {a : List (List Int)} {i : Nat} (h : i < a.length) : a[i]? = some (rowN a i) := by unfold rowN; rw [List.getElem?_eq_getElem h]; rfl
theorem nd_row {a : List (List Int)} {i j : Nat} (h : i < a.length) : nd (rowN a i) j = entA a i j := (ent_at (rowN_get h)).symm
theorem nd_col {b : List (List Int)} {j k : Nat} (h : j < b.length) : nd (colL b k) j = entA b j k := nd_of (tab_get h)
def mulM (a b : List (List Int)) : List (List Int) := matF a.length (widthN b) fun i k => dotL (colL b k) (rowN a i)
theorem mulM_shp {a b : List (List Int)} {n w : Nat} (ha : Shp a n) (hb : Shp b w) : Shp (mulM a b) w := by
  unfold mulM
  rw [shp_width hb]
  exact shp_of ha.rows hb.cols
theorem mat_bd {a : List (List Int)} {w i j : Nat} (h : Mat a w) (hi : i < a.length) (hj : j < w) : Bd 1000000 (entA a i j) := val_ent h hi hj
theorem DotP.congr {u v u' v' : Nat → Int} {n : Nat} {s : Int} (h : DotP u v n s) (hu : ∀ j, j < n → u j = u' j) (hv : ∀ j, j < n → v j = v' j) : DotP u' v' n s := by
  refine ⟨fun j hj h1 h2 => ?_, ?_⟩
  · rw [← hu j hj] at h1 ⊢
    rw [← hv j hj] at h2 ⊢
    exact h.up j hj h1 h2
  · rcases h.on with e | ⟨j, hj, h1, h2, e⟩
    · exact .inl e
    · rw [hu j hj] at h1 e
      rw [hv j hj] at h2 e
      exact .inr ⟨j, hj, h1, h2, e⟩
theorem bd_up {x : Int} (h : Bd 1000000 x) : Bd 2000000 x := by unfold Bd at *; omega
theorem mulM_eq (a b : List (List Int)) : mulM a b = matF a.length (widthN b) fun i k => dotL (colL b k) (rowN a i) := rfl
def pw (a f : List (List Int)) : Nat → List (List Int)
  | 0 => f
  | k + 1 => mulM a (pw a f k)
structure Ser (a f : List (List Int)) (w : Nat) : Prop where
  mat : Mat a a.length
  fst : Mat f w
  len : f.length = a.length
theorem Ser.shp {a f : List (List Int)} {w : Nat} (h : Ser a f w) : ∀ k, Shp (pw a f k) w ∧ (pw a f k).length = a.length
  | 0 => ⟨h.fst.shp, h.len⟩
  | k + 1 => ⟨mulM_shp h.mat.shp (h.shp k).1, matF_len _ _ _⟩
def okTo (a f : List (List Int)) (k : Nat) : Prop := ∀ i, i ≤ k → matB (pw a f i) = true
theorem Ser.zero {a f : List (List Int)} {w : Nat} (h : Ser a f w) : okTo a f 0 := fun i hi => by
  obtain rfl : i = 0 := by omega
  exact mat_matB h.fst
theorem okTo.mono {a f : List (List Int)} {k m : Nat} (h : okTo a f k) (hm : m ≤ k) : okTo a f m := fun i hi => h i (by omega)
/-- what lies in a product of matrices of values -/
theorem mul_dot {A B : List (List Int)} {n w : Nat} (hA : Shp A n) (hB : Shp B w) (hn : B.length = n) (bA : ∀ i j, i < A.length → j < n → Bd 2000000 (entA A i j)) (bB : ∀ j k, j < n → k < w → Bd 2000000 (entA B j k)) {i k : Nat} (hi : i < A.length) (hk : k < w) :
    DotP (entA A i) (fun j => entA B j k) n (entA (mulM A B) i k) := by
  have hrl := hA.row _ (List.mem_of_getElem? (rowN_get hi))
  have hcl : (colL B k).length = B.length := tab_len _ _
  have he : entA (mulM A B) i k = dotL (colL B k) (rowN A i) := by
    rw [mulM_eq]
    exact entA_matF hi (by rw [shp_width hB]; exact hk)
  have := dotL_ok (x := colL B k) (row := rowN A i) (by omega) (fun j hj => by rw [nd_row hi]; exact bA i j hi (by omega)) (fun j hj => by rw [nd_col (by omega)]; exact bB j k (by omega) hk)
  rw [hrl, ← he] at this
  exact this.congr (fun j _ => nd_row hi) (fun j hj => nd_col (by omega))
theorem mul_bdd {A B : List (List Int)} {n w : Nat} (hA : Mat A n) (hB : Mat B w) (hn : B.length = n) {i k : Nat} (hi : i < A.length) (hk : k < w) : Bd 2000000 (entA (mulM A B) i k) := by
  have d := mul_dot hA.shp hB.shp hn (fun i j hi hj => bd_up (mat_bd hA hi hj)) (fun j k hj hk => bd_up (mat_bd hB (by omega) hk)) hi hk
  rcases d.on with e | ⟨j, hj, h1, h2, e⟩
  · exact .inl e
  · have b1 := mat_bd hA hi hj
    have b2 := mat_bd hB (i := j) (j := k) (by omega) hk
    unfold Bd at *
    omega
theorem dot_ne {u v : Nat → Int} {n : Nat} {s : Int} (hu : ∀ j, j < n → Bd 2000000 (u j)) (hv : ∀ j, j < n → Bd 2000000 (v j)) (h : DotP u v n s) {j : Nat} (hj : j < n) (h1 : u j ≠ -1000000000000000) (h2 : v j ≠ -1000000000000000) : s ≠ -1000000000000000 := by
  have := h.up j hj h1 h2
  have b1 := hu j hj
  have b2 := hv j hj
  unfold Bd at *
  omega
theorem mul_assoc {A B C : List (List Int)} {n m w : Nat} (hA : Mat A n) (hB : Mat B m) (hC : Mat C w) (h1 : B.length = n) (h2 : C.length = m) : mulM (mulM A B) C = mulM A (mulM B C) := by
  have sAB := mulM_shp hA.shp hB.shp
  have sBC := mulM_shp hB.shp hC.shp
  have lAB : (mulM A B).length = A.length := matF_len _ _ _
  have lBC : (mulM B C).length = B.length := matF_len _ _ _
  have b0 : ∀ i k, i < A.length → k < m → Bd 2000000 (entA (mulM A B) i k) := fun i k hi hk => mul_bdd hA hB h1 hi hk
  have b1 : ∀ i k, i < n → k < w → Bd 2000000 (entA (mulM B C) i k) := fun i k hi hk => mul_bdd hB hC h2 (by omega) hk
  have bA : ∀ i j, i < A.length → j < n → Bd 2000000 (entA A i j) := fun i j hi hj => bd_up (mat_bd hA hi hj)
  have bB : ∀ i j, i < n → j < m → Bd 2000000 (entA B i j) := fun i j hi hj => bd_up (mat_bd hB (by omega) hj)
  have bC : ∀ i j, i < m → j < w → Bd 2000000 (entA C i j) := fun i j hi hj => bd_up (mat_bd hC (by omega) hj)
  have sL := mulM_shp sAB hC.shp
  have sR := mulM_shp hA.shp sBC
  have lL : (mulM (mulM A B) C).length = A.length := (matF_len _ _ _).trans lAB
  have lR : (mulM A (mulM B C)).length = A.length := matF_len _ _ _
  rw [mat_eq sL, mat_eq sR, lL, lR]
  refine matF_congr fun i k hi hk => ?_
  have dL := mul_dot sAB hC.shp h2 (fun i j hi hj => b0 i j (by omega) hj) bC (i := i) (k := k) (by omega) hk
  have dR := mul_dot hA.shp sBC (by omega) bA b1 hi hk
  have dAB := fun l (hl : l < m) => mul_dot hA.shp hB.shp h1 bA bB (i := i) (k := l) hi hl
  have dBC := fun j (hj : j < n) => mul_dot hB.shp hC.shp h2 (fun i j hi hj => bB i j (by omega) hj) bC (i := j) (k := k) (by omega) hk
  have hle1 : entA (mulM (mulM A B) C) i k ≠ -1000000000000000 → entA (mulM A (mulM B C)) i k ≠ -1000000000000000 ∧ entA (mulM (mulM A B) C) i k ≤ entA (mulM A (mulM B C)) i k := fun hne => by
    obtain ⟨l, hl, n1, n2, e⟩ := dL.on.resolve_left hne
    obtain ⟨j, hj, n3, n4, e2⟩ := (dAB l hl).on.resolve_left n1
    have u1 := (dBC j hj).up l hl n4 n2
    have n5 := dot_ne (fun l hl => bB j l hj hl) (fun l hl => bC l k hl hk) (dBC j hj) hl n4 n2
    have u2 := dR.up j hj n3 n5
    have n6 := dot_ne (fun j hj => bA i j hi hj) (fun j hj => b1 j k hj hk) dR hj n3 n5
    exact ⟨n6, by omega⟩
  have hle2 : entA (mulM A (mulM B C)) i k ≠ -1000000000000000 → entA (mulM (mulM A B) C) i k ≠ -1000000000000000 ∧ entA (mulM A (mulM B C)) i k ≤ entA (mulM (mulM A B) C) i k := fun hne => by
    obtain ⟨j, hj, n1, n2, e⟩ := dR.on.resolve_left hne
    obtain ⟨l, hl, n3, n4, e2⟩ := (dBC j hj).on.resolve_left n2
    have u1 := (dAB l hl).up j hj n1 n3
    have n5 := dot_ne (fun j hj => bA i j hi hj) (fun j hj => bB j l hj hl) (dAB l hl) hj n1 n3
    have u2 := dL.up l hl n5 n4
    have n6 := dot_ne (fun l hl => b0 i l hi hl) (fun l hl => bC l k hl hk) dL hl n5 n4
    exact ⟨n6, by omega⟩
  by_cases e1 : entA (mulM (mulM A B) C) i k = -1000000000000000
  · by_cases e2 : entA (mulM A (mulM B C)) i k = -1000000000000000
    · rw [e1, e2]
    · exact absurd e1 (hle2 e2).1
  · have := hle1 e1
    have := hle2 this.1
    omega
structure Gr (g : TGraph) (n : Nat) : Prop where
  ev : g.Events = (n : Int)
  lo : 1 ≤ n
  hi : n ≤ 10
  len : g.Places.length ≤ 30
  pl : ∀ p ∈ g.Places, (0 ≤ p.From ∧ p.From < n) ∧ (0 ≤ p.To ∧ p.To < n) ∧ 0 ≤ p.Tokens ∧ p.Tokens ≤ 5
theorem gr_of {g : TGraph} (h : graphB g = true) : ∃ n, Gr g n := by
  simp only [graphB, inB, placeB, Bool.and_eq_true, decide_eq_true_eq, List.all_eq_true] at h
  obtain ⟨⟨⟨h1, h2⟩, h3⟩, h4⟩ := h
  refine ⟨g.Events.toNat, by omega, by omega, by omega, h3, fun p hp => ?_⟩
  obtain ⟨⟨⟨⟨a1, a2⟩, b1, b2⟩, _⟩, d1, d2⟩ := h4 p hp
  rw [w64_eq _ (by omega)] at a2 b2
  omega
/-- a way from s of at most k places -/
inductive Wk (ps : List TPlace) (s : Int) : Nat → Int → Int → Prop
  | nil (k : Nat) : Wk ps s k s 0
  | step (k : Nat) (p : TPlace) (w : Int) : p ∈ ps → Wk ps s k p.From w → Wk ps s (k + 1) p.To (w + p.Tokens)
theorem Wk.mono {ps : List TPlace} {s : Int} {k : Nat} {v w : Int} (h : Wk ps s k v w) : ∀ {m : Nat}, k ≤ m → Wk ps s m v w := by
  induction h with
  | nil k => exact fun _ => .nil _
  | step k p w hp _ ih =>
    intro m hm
    obtain ⟨m', rfl⟩ : ∃ m', m = m' + 1 := ⟨m - 1, by omega⟩
    exact .step m' p w hp (ih (by omega))
theorem nodup_lt : ∀ (n : Nat) (l : List Nat), l.Nodup → (∀ v ∈ l, v < n) → l.length ≤ n
  | 0, [], _, _ => Nat.le_refl _
  | 0, v :: _, _, h => absurd (h v List.mem_cons_self) (by omega)
  | n + 1, l, hd, h => by
    by_cases hm : n ∈ l
    · have := nodup_lt n (l.erase n) (hd.erase n) (fun v hv => by
        have h1 := (hd.mem_erase_iff).1 hv
        have := h v h1.2
        have := h1.1
        omega)
      rw [List.length_erase_of_mem hm] at this
      omega
    · have := nodup_lt n l hd (fun v hv => by
        have := h v hv
        have : v ≠ n := fun e => hm (e ▸ hv)
        omega)
      omega
theorem chain {P : Nat → Nat → Prop} {n s : Nat} (hs : s < n) (h0 : P 0 s) (mono : ∀ k v, P k v → P (k + 1) v) (step : ∀ k, (∀ v, v < n → P (k + 1) v → P k v) → ∀ v, v < n → P (k + 2) v → P (k + 1) v) : ∀ k v, v < n → P k v → P n v := by
  have key : ∀ k, k ≤ n → (∃ j, j < k ∧ ∀ v, v < n → P (j + 1) v → P j v) ∨ ∃ l : List Nat, l.Nodup ∧ l.length = k + 1 ∧ ∀ v ∈ l, v < n ∧ P k v := by
    intro k
    induction k with
    | zero => exact fun _ => .inr ⟨[s], by simp, rfl, fun v hv => by simp at hv; subst hv; exact ⟨hs, h0⟩⟩
    | succ k ih =>
      intro hk
      rcases ih (by omega) with ⟨j, hj, h⟩ | ⟨l, l1, l2, l3⟩
      · exact .inl ⟨j, by omega, h⟩
      · by_cases hst : ∀ v, v < n → P (k + 1) v → P k v
        · exact .inl ⟨k, by omega, hst⟩
        · right
          have : ∃ v, v < n ∧ P (k + 1) v ∧ ¬ P k v := by
            refine Classical.byContradiction fun hc => hst fun v hv hp => Classical.byContradiction fun hnp => hc ⟨v, hv, hp, hnp⟩
          obtain ⟨v, hv, hp, hnp⟩ := this
          refine ⟨v :: l, List.nodup_cons.2 ⟨fun hm => hnp (l3 v hm).2, l1⟩, by simp [l2], fun u hu => ?_⟩
          rcases List.mem_cons.1 hu with rfl | hu
          · exact ⟨hv, hp⟩
          · exact ⟨(l3 u hu).1, mono _ _ (l3 u hu).2⟩
  obtain ⟨j, hj, hst⟩ : ∃ j, j < n ∧ ∀ v, v < n → P (j + 1) v → P j v := by
    rcases key n (Nat.le_refl _) with h | ⟨l, l1, l2, l3⟩
    · exact h
    · have := nodup_lt n l l1 fun v hv => (l3 v hv).1
      omega
  have up : ∀ d k v, P k v → P (k + d) v := by
    intro d
    induction d with
    | zero => exact fun k v h => h
    | succ d ih => exact fun k v h => mono _ _ (ih k v h)
  have stay : ∀ d, ∀ v, v < n → P (j + d + 1) v → P (j + d) v := by
    intro d
    induction d with
    | zero => exact hst
    | succ d ih => exact step (j + d) ih
  have down : ∀ d v, v < n → P (j + d) v → P j v := by
    intro d
    induction d with
    | zero => exact fun v _ h => h
    | succ d ih => exact fun v hv h => ih v hv (stay d v hv h)
  intro k v hv hp
  have h1 : P (j + k) v := by have := up j k v hp; rwa [Nat.add_comm] at this
  have h2 := down k v hv h1
  have := up (n - j) j v h2
  rwa [show j + (n - j) = n by omega] at this
theorem M.TC_forE {σ ρ : Type} {n : Nat} {f : Int → σ → M (σ ⊕ (σ ⊕ ρ))} {s : σ} (I : Nat → σ → Prop) (Q : ρ → Prop) (hn : n ≤ 9223372036854775807) (h0 : I 0 s) (round : ∀ (i : Nat) s, i < n → I i s → M.TC (f (i : Int) s) fun y => (∃ s', y = .inl s' ∧ I (i + 1) s') ∨ ∃ r, y = .inr (.inr r) ∧ Q r) :
    M.TC (M.forI 0 (n : Int) (fun s => .inl s) f s) (fun y => (∃ s', y = .inl s' ∧ I n s') ∨ ∃ r, y = .inr r ∧ Q r) := by
  refine M.TC_for (fun i s => I i.toNat s) s (by omega) (by omega) h0 (fun i s h1 h2 hI => ?_) (fun i s hi hI => ?_)
  · obtain ⟨k, rfl⟩ : ∃ k : Nat, i = k := ⟨i.toNat, by omega⟩
    refine (round k s (by omega) (by simpa using hI)).mono fun y hy => ?_
    rcases hy with ⟨s', e, h⟩ | ⟨r, e, h⟩
    · exact .inl ⟨s', e, by rw [show ((k : Int) + 1).toNat = k + 1 by omega]; exact h⟩
    · exact .inr ⟨_, e, .inr ⟨r, rfl, h⟩⟩
  · have e : i.toNat = n := by omega
    rw [e] at hI; exact .inl ⟨s, rfl, hI⟩
inductive RK (E : Nat → Nat → Prop) (n v : Nat) : Nat → Nat → Prop
  | nil (k : Nat) : RK E n v k v
  | step (k j i : Nat) : RK E n v k j → j < n → i < n → E j i → RK E n v (k + 1) i
theorem RK.mono {E : Nat → Nat → Prop} {n v k i : Nat} (h : RK E n v k i) : ∀ {m : Nat}, k ≤ m → RK E n v m i := by
  induction h with
  | nil k => exact fun _ => .nil _
  | step k j i _ hj hi he ih =>
    intro m hm
    obtain ⟨m', rfl⟩ : ∃ m', m = m' + 1 := ⟨m - 1, by omega⟩
    exact .step m' j i (ih (by omega)) hj hi he
def Rch (E : Nat → Nat → Prop) (n v i : Nat) : Prop := ∃ k, RK E n v k i
theorem Rch.step {E : Nat → Nat → Prop} {n v j i : Nat} (h : Rch E n v j) (hj : j < n) (hi : i < n) (he : E j i) : Rch E n v i := let ⟨k, h⟩ := h; ⟨k + 1, .step k j i h hj hi he⟩
theorem Rch.trans {E : Nat → Nat → Prop} {n v j i : Nat} (h : Rch E n v j) (g : Rch E n j i) : Rch E n v i := by
  obtain ⟨k, g⟩ := g
  induction g with
  | nil => exact h
  | step k j' i' _ hj hi he ih => exact ih.step hj hi he
theorem contains_neg {l : List Int} (h : l.length ≤ 9223372036854775807) (v : Int) : M.Conv (slices_Contains_int l v) (l.any fun x => v == x) := by
  unfold slices_Contains_int slices_Index_int
  refine contains_ok (fun x => v == x) h fun i x hx => ?_
  refine M.Conv_bind (M.Conv_get (by omega) (by simpa using hx)) ?_
  cases v == x <;> exact M.Conv_ret _
/-- below the line through i and j -/
def Sup (F : Int → Prop) (y : Int → Int) (i j : Int) : Prop := ∀ p, F p → (y p - y i) * (j - i) ≤ (y j - y i) * (p - i)
/-- the line through i and j is steeper than the line through j and k -/
abbrev Stp (y : Int → Int) (i j k : Int) : Prop := (y k - y j) * (j - i) < (y j - y i) * (k - j)
/-- vertices, the last one first -/
def HullR (F : Int → Prop) (y : Int → Int) : List Int → Prop
  | [] => True
  | [t] => F t ∧ ∀ p, F p → t ≤ p
  | j :: i :: r => F j ∧ i < j ∧ Sup F y i j ∧ (∀ h r', r = h :: r' → Stp y h i j) ∧ HullR F y (i :: r)
theorem mul_le_cancel {a b c : Int} (hc : 0 < c) (h : a * c ≤ b * c) : a ≤ b := Int.le_of_mul_le_mul_right h hc
/-- slopes go down: from (h, i) over (i, j) to a point p right of i that is below the line (i, j) -/
theorem below_next {y : Int → Int} {h i j p : Int} (h1 : h < i) (h2 : i < j) (hp : i ≤ p) (st : Stp y h i j) (hb : (y p - y i) * (j - i) ≤ (y j - y i) * (p - i)) : (y p - y i) * (i - h) ≤ (y i - y h) * (p - i) := by
  unfold Stp at st
  refine mul_le_cancel (c := j - i) (by omega) ?_
  have a1 : (y p - y i) * (i - h) * (j - i) = (y p - y i) * (j - i) * (i - h) := by rw [Int.mul_assoc, Int.mul_comm (i - h), ← Int.mul_assoc]
  have a2 := Int.mul_le_mul_of_nonneg_right hb (show 0 ≤ i - h by omega)
  have a3 := Int.mul_le_mul_of_nonneg_right (Int.le_of_lt st) (show 0 ≤ p - i by omega)
  have a4 : (y j - y i) * (p - i) * (i - h) = (y j - y i) * (i - h) * (p - i) := by rw [Int.mul_assoc, Int.mul_comm (p - i), ← Int.mul_assoc]
  have a5 : (y i - y h) * (j - i) * (p - i) = (y i - y h) * (p - i) * (j - i) := by rw [Int.mul_assoc, Int.mul_comm (j - i), ← Int.mul_assoc]
  omega
/-- one point more, right of all: the lines stay above -/
theorem HullR.more {F : Int → Prop} {y : Int → Int} {k : Int} : ∀ {j i : Int} {r : List Int}, HullR F y (j :: i :: r) → i < k → (y k - y i) * (j - i) ≤ (y j - y i) * (k - i) → HullR (fun p => F p ∨ p = k) y (j :: i :: r)
  | j, i, [], ⟨f, h1, h2, h3, g1, g2⟩, hk, hb => ⟨.inl f, h1, fun p hp => by
      rcases hp with hp | rfl
      · exact h2 p hp
      · exact hb, h3, .inl g1, fun p hp => by
      rcases hp with hp | rfl
      · exact g2 p hp
      · omega⟩
  | j, i, h :: r, ⟨f, h1, h2, h3, g⟩, hk, hb => ⟨.inl f, h1, fun p hp => by
      rcases hp with hp | rfl
      · exact h2 p hp
      · exact hb, h3, by
      have hi : h < i := by cases r <;> exact g.2.1
      have := below_next hi h1 (Int.le_of_lt hk) (h3 h r rfl) hb
      refine HullR.more g (by omega) ?_
      have e1 : (y k - y h) * (i - h) = (y k - y i) * (i - h) + (y i - y h) * (i - h) := by rw [← Int.add_mul]; congr 1; omega
      have e2 : (y i - y h) * (k - h) = (y i - y h) * (k - i) + (y i - y h) * (i - h) := by rw [← Int.mul_add]; congr 1; omega
      omega⟩
theorem HullR.head {F : Int → Prop} {y : Int → Int} {j : Int} {r : List Int} (h : HullR F y (j :: r)) : F j := by
  cases r <;> exact h.1
def yC (c : List Int) (p : Int) : Int := (c[p.toNat]?).getD 0
structure TsOK (c ts : List Int) : Prop where
  bd : ∀ t ∈ ts, termB c c.length t
  inc : List.Pairwise (fun a b => a < b) ts
  ne : ts ≠ []
theorem TsOK.at {c ts : List Int} (h : TsOK c ts) {q : Nat} {t : Int} (ht : ts[q]? = some t) : 0 ≤ t ∧ t < c.length ∧ (-1000000 ≤ yC c t ∧ yC c t ≤ 1000000) := by
  obtain ⟨a, b, x, hx, hb⟩ := h.bd t (List.mem_of_getElem? ht)
  refine ⟨a, b, ?_⟩
  unfold yC
  rw [hx]
  exact finB_bd hb
theorem TsOK.lt {c ts : List Int} (h : TsOK c ts) {p q : Nat} {s t : Int} (hs : ts[p]? = some s) (ht : ts[q]? = some t) (hpq : p < q) : s < t := by
  obtain ⟨h1, e1⟩ := List.getElem?_eq_some_iff.1 hs
  obtain ⟨h2, e2⟩ := List.getElem?_eq_some_iff.1 ht
  have := List.pairwise_iff_getElem.1 h.inc p q h1 h2 hpq
  rw [e1, e2] at this; exact this
inductive Chn (a : List (List Int)) (n : Nat) : List Nat → Int → Prop
  | one (v : Nat) : v < n → Chn a n [v] 0
  | cons (u v : Nat) (r : List Nat) (w : Int) : u < n → entA a v u ≠ -1000000000000000 → Chn a n (v :: r) w → Chn a n (u :: v :: r) (entA a v u + w)
theorem Chn.lt {a : List (List Int)} {n : Nat} {l : List Nat} {w : Int} (h : Chn a n l w) : ∀ x ∈ l, x < n := by
  induction h with
  | one v hv => intro x hx; simp at hx; subst hx; exact hv
  | cons u v r w hu _ _ ih =>
    intro x hx
    rcases List.mem_cons.1 hx with rfl | hx
    · exact hu
    · exact ih x hx
theorem Chn.unique {a : List (List Int)} {n : Nat} {l : List Nat} {w : Int} (h : Chn a n l w) : ∀ {w' : Int}, Chn a n l w' → w = w' := by
  induction h with
  | one v hv => intro w' h'; cases h'; rfl
  | cons u v r w hu _ _ ih => intro w' h'; cases h' with | cons _ _ _ w2 _ _ h2 => rw [ih h2]
theorem Chn.append {a : List (List Int)} {n : Nat} {v : Nat} {z : List Nat} {w2 : Int} (h2 : Chn a n (v :: z) w2) : ∀ {x : List Nat} {w1 : Int}, Chn a n (x ++ [v]) w1 → Chn a n (x ++ v :: z) (w1 + w2)
  | [], w1, h1 => by cases h1; rw [Int.zero_add]; exact h2
  | [u], w1, h1 => by
    cases h1 with
    | cons _ _ _ w hu ha h =>
      have := Chn.append h2 (x := []) h
      rw [Int.add_assoc]; exact .cons u v z _ hu ha this
  | u :: u' :: x, w1, h1 => by
    cases h1 with
    | cons _ _ _ w hu ha h =>
      have := Chn.append h2 (x := u' :: x) h
      rw [Int.add_assoc]; exact .cons u u' _ _ hu ha this
theorem Chn.split {a : List (List Int)} {n : Nat} {v : Nat} {z : List Nat} : ∀ {x : List Nat} {w : Int}, Chn a n (x ++ v :: z) w → ∃ w1 w2, w = w1 + w2 ∧ Chn a n (x ++ [v]) w1 ∧ Chn a n (v :: z) w2
  | [], w, h => ⟨0, w, by omega, .one v (h.lt v (by simp)), h⟩
  | [u], w, h => by
    cases h with
    | cons _ _ _ w' hu ha h => exact ⟨entA a v u, w', rfl, by have := Chn.cons u v [] 0 hu ha (.one v (h.lt v (by simp))); rwa [Int.add_zero] at this, h⟩
  | u :: u' :: x, w, h => by
    cases h with
    | cons _ _ _ w' hu ha h =>
      obtain ⟨w1, w2, rfl, h1, h2⟩ := Chn.split (x := u' :: x) h
      exact ⟨entA a u' u + w1, w2, by omega, .cons u u' _ _ hu ha h1, h2⟩
/-- a closed chain -/
def Cl (a : List (List Int)) (n : Nat) (l : List Nat) (w : Int) : Prop := ∃ h r, l = h :: r ∧ Chn a n (l ++ [h]) w
theorem Cl.ne {a : List (List Int)} {n : Nat} {l : List Nat} {w : Int} (h : Cl a n l w) : l ≠ [] := by obtain ⟨_, _, rfl, _⟩ := h; simp
theorem Cl.lt {a : List (List Int)} {n : Nat} {l : List Nat} {w : Int} (h : Cl a n l w) : ∀ x ∈ l, x < n := by
  obtain ⟨_, _, rfl, h⟩ := h
  exact fun x hx => h.lt x (List.mem_append.2 (.inl hx))
theorem Cl.unique {a : List (List Int)} {n : Nat} {l : List Nat} {w w' : Int} (h : Cl a n l w) (h' : Cl a n l w') : w = w' := by
  obtain ⟨_, _, rfl, h⟩ := h
  obtain ⟨_, _, e, h'⟩ := h'
  cases e
  exact h.unique h'
theorem Cl.rot {a : List (List Int)} {n : Nat} {x y : List Nat} {w : Int} (h : Cl a n (x ++ y) w) : Cl a n (y ++ x) w := by
  cases x with
  | nil => simpa using h
  | cons h' x =>
    cases y with
    | nil => simpa using h
    | cons g y =>
      obtain ⟨h0, r, e, hc⟩ := h
      simp only [List.cons_append, List.cons.injEq] at e
      obtain ⟨rfl, rfl⟩ := e
      have hc : Chn a n ((h' :: x) ++ g :: (y ++ [h'])) w := by simpa using hc
      obtain ⟨w1, w2, rfl, c1, c2⟩ := hc.split
      refine ⟨g, y ++ h' :: x, rfl, ?_⟩
      have c1' : Chn a n (h' :: (x ++ [g])) w1 := by simpa using c1
      have := Chn.append c1' (x := g :: y) (by simpa using c2)
      rw [Int.add_comm]
      simpa using this
/-- a node met twice: two closed chains -/
theorem Cl.cut {a : List (List Int)} {n : Nat} {x y z : List Nat} {v : Nat} {w : Int} (h : Cl a n (x ++ v :: y ++ v :: z) w) : ∃ w1 w2, w = w1 + w2 ∧ Cl a n (v :: y) w1 ∧ Cl a n (v :: z ++ x) w2 := by
  have h' : Cl a n (x ++ (v :: y ++ v :: z)) w := by simpa using h
  obtain ⟨h0, r, e, hc⟩ := h'.rot
  simp only [List.cons_append, List.append_assoc, List.cons.injEq] at e
  obtain ⟨rfl, rfl⟩ := e
  have hc : Chn a n ((v :: y) ++ v :: (z ++ x ++ [v])) w := by simpa using hc
  obtain ⟨w1, w2, rfl, c1, c2⟩ := hc.split
  exact ⟨w1, w2, rfl, ⟨v, y, rfl, c1⟩, ⟨v, z ++ x, rfl, by simpa using c2⟩⟩
theorem dup_of : ∀ {l : List Nat}, ¬ l.Nodup → ∃ (x : List Nat) (v : Nat) (y z : List Nat), l = x ++ v :: y ++ v :: z
  | [], h => absurd List.nodup_nil h
  | u :: l, h => by
    by_cases hm : u ∈ l
    · obtain ⟨y, z, rfl⟩ := List.append_of_mem hm
      exact ⟨[], u, y, z, rfl⟩
    · have : ¬ l.Nodup := fun hd => h (List.nodup_cons.2 ⟨hm, hd⟩)
      obtain ⟨x, v, y, z, rfl⟩ := dup_of this
      exact ⟨u :: x, v, y, z, rfl⟩
/-- a written cycle: each node once, the smallest one first -/
structure WC (a : List (List Int)) (n : Nat) (l : List Nat) (w : Int) : Prop where
  cl : Cl a n l w
  nd : l.Nodup
  fst : ∀ h r, l = h :: r → ∀ x ∈ r, h < x
theorem min_mem : ∀ {l : List Nat}, l ≠ [] → ∃ m ∈ l, ∀ x ∈ l, m ≤ x
  | [], h => absurd rfl h
  | [u], _ => ⟨u, by simp, by simp⟩
  | u :: u' :: l, _ => by
    obtain ⟨m, hm, h⟩ := min_mem (l := u' :: l) (by simp)
    by_cases e : u ≤ m
    · exact ⟨u, by simp, fun x hx => by
        rcases List.mem_cons.1 hx with rfl | hx
        · exact Nat.le_refl _
        · exact Nat.le_trans e (h x hx)⟩
    · exact ⟨m, List.mem_cons_of_mem _ hm, fun x hx => by
        rcases List.mem_cons.1 hx with rfl | hx
        · omega
        · exact h x hx⟩
/-- from a closed chain to a written cycle, with a property that sums hand on to one of their parts -/
theorem Cl.written {a : List (List Int)} {n : Nat} {P : Nat → Int → Prop} (hP : ∀ k1 k2 w1 w2, P (k1 + k2) (w1 + w2) → P k1 w1 ∨ P k2 w2) : ∀ (k : Nat) {l : List Nat} {w : Int}, l.length = k → Cl a n l w → P l.length w → ∃ l' w', WC a n l' w' ∧ P l'.length w' ∧ ∀ x ∈ l', x ∈ l := by
  intro k
  induction k using Nat.strongRecOn with
  | _ k ih =>
    intro l w hk hc hp
    by_cases hd : l.Nodup
    · obtain ⟨m, hm, hmin⟩ := min_mem hc.ne
      obtain ⟨x, z, rfl⟩ := List.append_of_mem hm
      have hr := hc.rot
      refine ⟨m :: z ++ x, w, ⟨hr, ?_, fun h r e y hy => ?_⟩, by simpa [Nat.add_comm, Nat.add_left_comm, Nat.add_assoc] using hp, fun y hy => by
        simp only [List.mem_append, List.mem_cons] at hy ⊢
        rcases hy with (hy | hy) | hy
        · exact .inr (.inl hy)
        · exact .inr (.inr hy)
        · exact .inl hy⟩
      · rw [List.nodup_append] at hd ⊢
        exact ⟨hd.2.1, hd.1, fun b hb c hc e => hd.2.2 c hc b hb e.symm⟩
      · simp only [List.cons_append, List.cons.injEq] at e
        obtain ⟨rfl, rfl⟩ := e
        have h1 := hmin y (by
          simp only [List.mem_append, List.mem_cons] at hy ⊢
          rcases hy with hy | hy
          · exact .inr (.inr hy)
          · exact .inl hy)
        have h2 : y ≠ m := by
          rintro rfl
          rw [List.nodup_append] at hd
          rcases List.mem_append.1 hy with hy | hy
          · exact (List.nodup_cons.1 hd.2.1).1 hy
          · exact hd.2.2 y hy y List.mem_cons_self rfl
        omega
    · obtain ⟨x, v, y, z, rfl⟩ := dup_of hd
      obtain ⟨w1, w2, rfl, c1, c2⟩ := hc.cut
      have e : (x ++ v :: y ++ v :: z).length = (v :: y).length + (v :: z ++ x).length := by simp; omega
      rw [e] at hp hk
      rcases hP _ _ _ _ hp with hp | hp
      · obtain ⟨l', w', a1, a2, a3⟩ := ih _ (by rw [← hk]; simp) rfl c1 hp
        exact ⟨l', w', a1, a2, fun u hu => by
          have := a3 u hu
          simp only [List.mem_append, List.mem_cons] at this ⊢
          rcases this with h | h
          · exact .inl (.inr (.inl h))
          · exact .inl (.inr (.inr h))⟩
      · obtain ⟨l', w', a1, a2, a3⟩ := ih _ (by rw [← hk]; simp) rfl c2 hp
        exact ⟨l', w', a1, a2, fun u hu => by
          have := a3 u hu
          simp only [List.mem_append, List.mem_cons] at this ⊢
          rcases this with (h | h) | h
          · exact .inl (.inr (.inl h))
          · exact .inr (.inr h)
          · exact .inl (.inl h)⟩
namespace M
theorem bind_at {α β : Type} {m m' : M α} {f f' : α → M β} {n : Nat} (h : m n = m' n) (hf : ∀ x, f x n = f' x n) : bind m f n = bind m' f' n := by
  unfold bind
  rw [h]
  cases m' n with
  | none => rfl
  | some x => exact hf x
theorem ite_at {α : Type} {b : Bool} {x x' y y' : M α} {n : Nat} (h : x n = x' n) (g : y n = y' n) : ite b x y n = ite b x' y' n := by
  cases b
  · exact g
  · exact h
theorem for_at {σ ρ : Type} {lo hi : Int} {fin : σ → ρ} {f f' : Int → σ → M (σ ⊕ ρ)} {s : σ} {n : Nat} (h : ∀ i s, f i s n = f' i s n) : forI lo hi fin f s n = forI lo hi fin f' s n := by
  have key : ∀ (m : Nat) (i : Int) (s : σ), forN hi fin f n m i s = forN hi fin f' n m i s := by
    intro m
    induction m with
    | zero => intro i s; rfl
    | succ m ih =>
      intro i s
      unfold forN
      rw [h i s]
      cases decide (i < hi) with
      | false => rfl
      | true =>
        simp only [cond_true]
        cases f' i s n with
        | none => rfl
        | some y => cases y with
          | inl s' => exact ih _ _
          | inr r => rfl
  unfold forI
  rw [key]
theorem TC_at {α : Type} {m m' : M α} {Post : α → Prop} (N : Nat) (e : ∀ n, N ≤ n → m n = m' n) (h : TC m' Post) : TC m Post := by
  obtain ⟨r, ⟨N', h⟩, hp⟩ := h
  exact ⟨r, ⟨max N N', fun n hn => by rw [e n (by omega)]; exact h n (by omega)⟩, hp⟩
end M

theorem l01Has_ok {l : List Int} (x : Int) (h : l.length ≤ 9223372036854775807) : M.Conv (spec_l01Has l x) (l.any fun y => y == x) := by
  unfold spec_l01Has
  refine M.Conv_bind (M.Conv_all (fun y => !(y == x)) true h fun i y hy => ?_) ?_
  · refine M.Conv_bind (M.Conv_get (by omega) (by simpa using hy)) ?_
    cases y == x <;> exact M.Conv_ret _
  · have e : (l.all fun y => !(y == x)) = !(l.any fun y => y == x) := by
      rw [← any_not]; simp
    rw [e]
    cases l.any fun y => y == x <;> exact M.Conv_ret _
def growB (F : List Int → Int → M (List Int)) (a_ : List (List Int)) (over : Int) (path : List Int) (weight : Int) : M (List Int) := M.bind (M.idx path 0) (fun x1 => M.bind (M.idx path (w64 ((path.length : Int) - 1))) (fun x2 => M.bind (M.idx a_ x1) (fun x3 => M.bind (M.idx x3 x2) (fun x4 => M.bind (M.ite (x4 != (-1000000000000000)) (M.bind (M.idx a_ x1) (fun x6 => M.bind (M.idx x6 x2) (fun x7 => M.ret (decide (over < (w64 (weight + x7))))))) (M.ret false)) (fun x5 => M.ite x5 (M.ret path) (M.bind (M.forI (w64 (x1 + 1)) (a_.length : Int) (fun s => .inl s) (fun i1 => (fun (_ : Unit) => M.bind (M.idx a_ i1) (fun x9 => M.bind (M.idx x9 x2) (fun x10 => M.bind (M.ite (x10 == (-1000000000000000)) (M.ret true) (M.bind (spec_l01Has path i1) (fun x12 => M.ret x12))) (fun x11 => M.ite x11 (M.ret (.inl ())) (M.bind (M.bind (M.idx a_ i1) (fun x15 => M.bind (M.idx x15 x2) (fun x16 => M.bind (spec_l01Own path) (fun x17 => M.bind (M.app x17 ([i1] : List Int)) (fun l1 => M.bind (F l1 (w64 (weight + x16))) (fun x18 => M.ret x18)))))) (fun (s3 : (List Int)) => M.ite (decide (0 < (s3.length : Int))) (M.ret (.inr (.inr s3))) (M.ret (.inl ()))))))))) ()) (fun x8 => M.cont x8 (fun _ => M.ret ([] : List Int)) (fun r => M.ret r))))))))
theorem growR_eq (k : Nat) (a : List (List Int)) (over : Int) (path : List Int) (weight : Int) : spec_l03Grow_R (k + 1) a path weight over = growB (fun p w => spec_l03Grow_R k a p w over) a over path weight := rfl
def Gd (a : List (List Int)) (over : Int) (d : Nat) (path : List Int) (weight : Int) : M (List Int) := fun n => spec_l03Grow_R (n - d) a path weight over n
theorem growB_at {F G : List Int → Int → M (List Int)} {a : List (List Int)} {over : Int} {path : List Int} {weight : Int} {n : Nat} (h : ∀ p w, F p w n = G p w n) : growB F a over path weight n = growB G a over path weight n := by
  unfold growB
  refine M.bind_at rfl fun x1 => M.bind_at rfl fun x2 => M.bind_at rfl fun x3 => M.bind_at rfl fun x4 => M.bind_at rfl fun x5 => M.ite_at rfl (M.bind_at (M.for_at fun i s => ?_) fun x => rfl)
  exact M.bind_at rfl fun x9 => M.bind_at rfl fun x10 => M.bind_at rfl fun x11 => M.ite_at rfl (M.bind_at (M.bind_at rfl fun x15 => M.bind_at rfl fun x16 => M.bind_at rfl fun x17 => M.bind_at rfl fun l1 => M.bind_at (h _ _) fun _ => rfl) fun _ => rfl)
theorem Gd_step {a : List (List Int)} {over : Int} {d n : Nat} {path : List Int} {weight : Int} (h : d < n) : Gd a over d path weight n = growB (Gd a over (d + 1)) a over path weight n := by
  obtain ⟨k, hk⟩ : ∃ k, n - d = k + 1 := ⟨n - d - 1, by omega⟩
  show spec_l03Grow_R (n - d) a path weight over n = _
  rw [hk, growR_eq]
  refine growB_at fun p w => ?_
  show spec_l03Grow_R k a p w over n = spec_l03Grow_R (n - (d + 1)) a p w over n
  rw [show n - (d + 1) = k by omega]
abbrev toI (l : List Nat) : List Int := l.map fun (x : Nat) => (x : Int)
theorem toI_get {l : List Nat} {i x : Nat} (h : l[i]? = some x) : (toI l)[i]? = some (x : Int) := by simp [toI, h]
theorem toI_mem {l : List Nat} {x : Nat} : (x : Int) ∈ toI l ↔ x ∈ l := by
  unfold toI
  rw [List.mem_map]
  exact ⟨fun ⟨y, hy, e⟩ => by
    have : y = x := by omega
    rwa [this] at hy, fun h => ⟨x, h, rfl⟩⟩
/-- entries that are Bottom or not large -/
def Ent (a : List (List Int)) (n : Nat) (B : Int) : Prop := ∀ i j, i < n → j < n → entA a i j = -1000000000000000 ∨ (-B ≤ entA a i j ∧ entA a i j ≤ B)
theorem Chn.bd {a : List (List Int)} {n : Nat} {B : Int} (hB : Ent a n B) (h0 : 0 ≤ B) {l : List Nat} {w : Int} (h : Chn a n l w) : -(B * ((l.length - 1 : Nat) : Int)) ≤ w ∧ w ≤ B * ((l.length - 1 : Nat) : Int) := by
  induction h with
  | one v hv => simp
  | cons u v r w hu ha h ih =>
    have hv := h.lt v List.mem_cons_self
    have := (hB v u hv hu).resolve_left ha
    have e : (((u :: v :: r).length - 1 : Nat) : Int) = (((v :: r).length - 1 : Nat) : Int) + 1 := by simp
    rw [e, Int.mul_add, Int.mul_one]
    omega
theorem Chn.last_lt {a : List (List Int)} {n : Nat} {x : List Nat} {t : Nat} {w : Int} (h : Chn a n (x ++ [t]) w) : t < n := h.lt t (by simp)
theorem Chn.snoc {a : List (List Int)} {n : Nat} {x : List Nat} {t v : Nat} {w : Int} (h : Chn a n (x ++ [t]) w) (hv : v < n) (ha : entA a v t ≠ -1000000000000000) : Chn a n (x ++ [t] ++ [v]) (w + entA a v t) := by
  have h2 : Chn a n [t, v] (entA a v t) := by have := Chn.cons t v [] 0 h.last_lt ha (.one v hv); rwa [Int.add_zero] at this
  have := Chn.append h2 (x := x) h
  simpa using this
theorem Chn.snoc_inv {a : List (List Int)} {n : Nat} {x : List Nat} {t v : Nat} {w : Int} (h : Chn a n (x ++ [t] ++ [v]) w) : ∃ w', w = w' + entA a v t ∧ Chn a n (x ++ [t]) w' ∧ entA a v t ≠ -1000000000000000 := by
  have h : Chn a n (x ++ t :: [v]) w := by simpa using h
  obtain ⟨w1, w2, rfl, h1, h2⟩ := h.split
  cases h2 with
  | cons _ _ _ w3 _ ha h3 => cases h3; exact ⟨w1, by omega, h1, ha⟩
def GrowP (a : List (List Int)) (n : Nat) (over : Int) (pl : List Nat) (q : List Int) : Prop :=
  (q = [] ∧ ∀ l w', WC a n l w' → over < w' → ¬ pl <+: l) ∨ ∃ l w', q = toI l ∧ WC a n l w' ∧ over < w' ∧ pl <+: l
theorem grow_tc {a : List (List Int)} {n : Nat} (hs : Shp a n) (al : a.length = n) {over B : Int} (hB : Ent a n B) (h0 : 0 ≤ B) (hB2 : B ≤ 10000000000000) : ∀ (m d : Nat) (h t : Nat) (x : List Nat) (w : Int), (x ++ [t]).length + m = n → (x ++ [t]).head? = some h → (x ++ [t]).Nodup → (∀ y ∈ x ++ [t], h ≤ y) → Chn a n (x ++ [t]) w → M.TC (Gd a over d (toI (x ++ [t])) w) (GrowP a n over (x ++ [t])) := by
  have hrows := hs.rows
  intro m
  induction m with
  | zero => ?_
  | succ m ih => ?_
  all_goals
    intro d h t x w hm hh hnd hmin hc
    have hlen : (x ++ [t]).length ≤ n := nodup_lt n _ hnd hc.lt
    have ht := hc.last_lt
    have hhm : h ∈ x ++ [t] := List.mem_of_mem_head? (by rw [hh]; rfl)
    have hhn := hc.lt h hhm
    have bw := hc.bd hB h0
    have bw2 : -100000000000000 ≤ w ∧ w ≤ 100000000000000 := by
      have h9 : (((x ++ [t]).length - 1 : Nat) : Int) ≤ 10 := by omega
      have := Int.mul_le_mul hB2 h9 (by omega) (by omega)
      omega
    refine M.TC_at (d + 1) (fun k hk => Gd_step (by omega)) ?_
    have hpl : (toI (x ++ [t])).length = x.length + 1 := by simp
    have g0 : M.Conv (M.idx (toI (x ++ [t])) 0) (h : Int) := M.Conv_get (by omega) (toI_get (i := 0) (by rw [← List.head?_eq_getElem?]; exact hh))
    have g1 : M.Conv (M.idx (toI (x ++ [t])) (w64 (((toI (x ++ [t])).length : Int) - 1))) (t : Int) := by
      rw [hpl, w64_eq _ (by simp at hlen; omega)]
      exact M.Conv_get (by omega) (toI_get (i := (((x.length + 1 : Nat) : Int) - 1).toNat) (by rw [show (((x.length + 1 : Nat) : Int) - 1).toNat = x.length by omega]; simp))
    obtain ⟨r0, e1, _, e2⟩ := ent_read hs (i := h) (j := t) (by omega) ht
    have bht := hB h t hhn ht
    have chk : M.Conv (M.ite (entA a h t != (-1000000000000000)) (M.bind (M.idx a (h : Int)) (fun x6 => M.bind (M.idx x6 (t : Int)) (fun x7 => M.ret (decide (over < (w64 (w + x7))))))) (M.ret false)) ((entA a h t != (-1000000000000000)) && decide (over < w + entA a h t)) := by
      refine M.Conv_ite (fun q => M.Conv_bind e1 (M.Conv_bind e2 ((M.Conv_ret _).of ?_))) (fun q => (M.Conv_ret _).of (by rw [q]; rfl))
      have hne : entA a h t ≠ -1000000000000000 := by simpa using q
      rw [q, w64_eq _ (by omega)]; rfl
    unfold growB
    refine M.TC_bindC g0 (M.TC_bindC g1 (M.TC_bindC e1 (M.TC_bindC e2 (M.TC_bindC (x := (entA a h t != (-1000000000000000)) && decide (over < w + entA a h t)) chk (M.TC_ite (fun q => M.TC_ret ?_) (fun q => ?_))))))
    · simp only [Bool.and_eq_true, bne_iff_ne, ne_eq, decide_eq_true_eq] at q
      refine .inr ⟨x ++ [t], w + entA a h t, rfl, ⟨?_, hnd, fun h' r e y hy => ?_⟩, q.2, List.prefix_refl _⟩
      · cases hx : x ++ [t] with
        | nil => rw [hx] at hh; cases hh
        | cons h' r =>
          rw [hx] at hh
          have e9 : h' = h := by simpa using hh
          subst e9
          have := hc.snoc hhn q.1
          rw [hx] at this
          exact ⟨h', r, rfl, this⟩
      · rw [e] at hh hnd
        have e9 : h' = h := by simpa using hh
        subst e9
        have h1 := hmin y (by rw [e]; exact List.mem_cons_of_mem _ hy)
        have h2 : y ≠ h' := fun c => (List.nodup_cons.1 hnd).1 (c ▸ hy)
        omega
    · have closed : ∀ w', WC a n (x ++ [t]) w' → ¬ over < w' := fun w' hw hov => by
        obtain ⟨h', r, e, hcl⟩ := hw.cl
        rw [e] at hh
        have e9 : h' = h := by simpa using hh
        subst e9
        obtain ⟨w1, rfl, hc1, ha⟩ := hcl.snoc_inv
        have := hc.unique hc1
        subst this
        rw [show (entA a h' t != (-1000000000000000)) = true by simpa using ha, Bool.true_and, decide_eq_false_iff_not] at q
        exact q hov
      have ew : w64 ((h : Int) + 1) = ((h + 1 : Nat) : Int) := by rw [w64_eq _ (by omega)]; omega
      rw [ew, al]
      refine M.TC_bind (Mid := fun (y : Unit ⊕ List Int) => (y = .inl () ∧ ∀ v, h < v → v < n → ∀ l w', WC a n l w' → over < w' → ¬ (x ++ [t] ++ [v]) <+: l) ∨ ∃ q, y = .inr q ∧ GrowP a n over (x ++ [t]) q ∧ q ≠ []) (M.TC_for (fun i (_ : Unit) => ∀ v, h < v → (v : Int) < i → ∀ l w', WC a n l w' → over < w' → ¬ (x ++ [t] ++ [v]) <+: l) _ (by omega) (by omega) (fun v h1 h2 => by omega) (fun i s i0 i1 hI => ?_) (fun i s hi hI => .inl ⟨rfl, fun v h1 h2 => hI v h1 (by omega)⟩)) fun y hy => ?_
      · obtain ⟨v, rfl⟩ : ∃ v : Nat, i = v := ⟨i.toNat, by omega⟩
        have hv : v < n := by omega
        obtain ⟨rv, f1, _, f2⟩ := ent_read hs (i := v) (j := t) (by omega) ht
        have next : ((entA a v t == -1000000000000000) || (toI (x ++ [t])).any fun y => y == (v : Int)) = true → ∀ u, h < u → (u : Int) < (v : Int) + 1 → ∀ l w', WC a n l w' → over < w' → ¬ (x ++ [t] ++ [u]) <+: l := fun hb u h1 h2 l w' hw hov hp => by
          by_cases e : u = v
          · subst e
            obtain ⟨z, rfl⟩ := hp
            simp only [Bool.or_eq_true, beq_iff_eq, List.any_eq_true] at hb
            rcases hb with hb | ⟨y, hy, hyv⟩
            · obtain ⟨h', r, e, hcl⟩ := hw.cl
              rw [show x ++ [t] ++ [u] ++ z ++ [h'] = x ++ [t] ++ u :: (z ++ [h']) by simp] at hcl
              obtain ⟨w1, w2, _, c1, _⟩ := hcl.split
              obtain ⟨_, _, _, ha⟩ := c1.snoc_inv
              exact ha hb
            · subst hyv
              have hmem : u ∈ x ++ [t] := toI_mem.1 hy
              have := hw.nd
              rw [List.append_assoc, List.nodup_append] at this
              exact this.2.2 u hmem u (by simp) rfl
          · exact hI u h1 (by omega) l w' hw hov hp
        refine M.TC_bindC f1 (M.TC_bindC f2 (M.TC_bindC (x := (entA a v t == -1000000000000000) || (toI (x ++ [t])).any fun y => y == (v : Int)) (Conv_or fun _ => M.Conv_bind (l01Has_ok _ (by rw [hpl]; simp at hlen; omega)) (M.Conv_ret _)) (M.TC_ite (fun q2 => M.TC_ret (.inl ⟨_, rfl, next q2⟩)) (fun q2 => ?_))))
        simp only [Bool.or_eq_false_iff, beq_eq_false_iff_ne, ne_eq, List.any_eq_false, beq_iff_eq] at q2
        have hvn : v ∉ x ++ [t] := fun hm => q2.2 _ (toI_mem.2 hm) rfl
        have bvt := (hB v t hv ht).resolve_left q2.1
        have hnd2 : (x ++ [t] ++ [v]).Nodup := by
          rw [List.nodup_append]
          exact ⟨hnd, by simp, fun b hb c hc e => by simp at hc; subst hc; exact hvn (e ▸ hb)⟩
        have hc2 := hc.snoc hv q2.1
        have hlen2 := nodup_lt n _ hnd2 hc2.lt
        have eo : M.Conv (spec_l01Own (toI (x ++ [t]))) (toI (x ++ [t])) := spec_l01Own_ok (by unfold smI; rw [hpl]; simp at hlen; omega)
        have ea : M.Conv (M.app (toI (x ++ [t])) ([(v : Int)] : List Int)) (toI (x ++ [t] ++ [v])) := (M.Conv_app (by rw [hpl]; simp at hlen ⊢; omega)).of (by simp)
        have er : w64 (w + entA a v t) = w + entA a v t := w64_eq _ (by omega)
        first
        | exact absurd hlen2 (by simp at hm ⊢; omega)
        | (have rc := ih (d + 1) h v (x ++ [t]) (w + entA a v t) (by simp at hm ⊢; omega) (by rw [List.head?_append, hh]; rfl) hnd2 (fun y hy => by
            rcases List.mem_append.1 hy with hy | hy
            · exact hmin y hy
            · simp at hy; omega) hc2
           obtain ⟨q, cq, hq⟩ := rc
           refine M.TC_bindC (x := q) (M.Conv_bind f1 (M.Conv_bind f2 (M.Conv_bind eo (M.Conv_bind ea (M.Conv_bind (by rw [er]; exact cq) (M.Conv_ret _)))))) ?_
           rcases hq with ⟨rfl, hq⟩ | ⟨l, w', rfl, hw, hov, hp⟩
           · refine M.TC_ite (fun t => by simp at t) (fun _ => M.TC_ret (.inl ⟨_, rfl, fun u h1 h2 l w' hw hov hp => ?_⟩))
             by_cases e : u = v
             · subst e; exact hq l w' hw hov hp
             · exact hI u h1 (by omega) l w' hw hov hp
           · have hne : toI l ≠ [] := by
               obtain ⟨_, _, e, _⟩ := hw.cl
               rw [e]; simp
             refine M.TC_ite (fun _ => M.TC_ret (.inr ⟨_, rfl, .inr ⟨_, rfl, .inr ⟨l, w', rfl, hw, hov, (List.prefix_append _ _).trans hp⟩, hne⟩⟩)) (fun t => ?_)
             have := List.length_pos_iff.2 hne
             have t := of_decide_eq_false t
             omega)
      · rcases hy with ⟨rfl, hy⟩ | ⟨q, rfl, hq, _⟩
        · refine M.TC_ret (.inl ⟨rfl, fun l w' hw hov hp => ?_⟩)
          obtain ⟨z, rfl⟩ := hp
          cases z with
          | nil => rw [List.append_nil] at hw; exact closed w' hw hov
          | cons v z =>
            have hv : v < n := hw.cl.lt v (by simp)
            have hhv : h < v := by
              cases hx : x ++ [t] with
              | nil => rw [hx] at hh; cases hh
              | cons h' r =>
                rw [hx] at hh
                have e9 : h' = h := by simpa using hh
                subst e9
                exact hw.fst h' (r ++ v :: z) (by rw [hx]; rfl) v (by simp)
            exact hy v hhv hv _ w' hw hov ⟨z, by simp⟩
        · exact M.TC_ret hq
/-- the first written cycle of more weight than some number -/
theorem over_tc {a : List (List Int)} {n : Nat} (hs : Shp a n) (al : a.length = n) {over B : Int} (hB : Ent a n B) (h0 : 0 ≤ B) (hB2 : B ≤ 10000000000000) : M.TC (spec_l03Over a over) (fun q => (q = [] ∧ ∀ l w, WC a n l w → ¬ over < w) ∨ ∃ l w, q = toI l ∧ WC a n l w ∧ over < w) := by
  have hrows := hs.rows
  unfold spec_l03Over
  rw [al]
  refine M.TC_bind (M.TC_forE (fun v (_ : Unit) => ∀ u, u < v → ∀ l w, WC a n l w → over < w → ¬ [u] <+: l) (fun q => ∃ l w, q = toI l ∧ WC a n l w ∧ over < w) (by omega) (fun u hu => by omega) (fun v s hv hI => ?_)) fun y hy => ?_
  · have := grow_tc hs al (over := over) hB h0 hB2 (n - 1) 0 v v [] 0 (by simp; omega) rfl (by simp) (by simp) (.one v hv)
    obtain ⟨q, cq, hq⟩ := this
    have cq : M.Conv (spec_l03Grow a ([(v : Int)] : List Int) 0 over) q := cq
    refine M.TC_bindC cq ?_
    rcases hq with ⟨rfl, hq⟩ | ⟨l, w, rfl, hw, hov, hp⟩
    · refine M.TC_ite (fun t => by simp at t) (fun _ => M.TC_ret (.inl ⟨_, rfl, fun u hu l w hw hov hp => ?_⟩))
      by_cases e : u = v
      · subst e; exact hq l w hw hov hp
      · exact hI u (by omega) l w hw hov hp
    · have hne : toI l ≠ [] := by
        obtain ⟨_, _, e, _⟩ := hw.cl
        rw [e]; simp
      refine M.TC_ite (fun _ => M.TC_ret (.inr ⟨_, rfl, l, w, rfl, hw, hov⟩)) (fun t => ?_)
      have := List.length_pos_iff.2 hne
      have t := of_decide_eq_false t
      omega
  · rcases hy with ⟨s, rfl, hy⟩ | ⟨q, rfl, hq⟩
    · refine M.TC_ret (.inl ⟨rfl, fun l w hw hov => ?_⟩)
      obtain ⟨h, r, e, _⟩ := id hw.cl
      exact hy h (hw.cl.lt h (by rw [e]; simp)) l w hw hov (by rw [e]; exact ⟨r, rfl⟩)
    · exact M.TC_ret (.inr hq)

theorem free_ok {g : TGraph} {n : Nat} (hg : Gr g n) : ∃ f : Nat → Nat → Int, M.Conv (spec_l12Free g) (matF n n f) ∧ ∀ v u, v < n → u < n → (f v u = 0 ∨ f v u = -1000000000000000) ∧ (f v u = 0 ↔ ∃ p ∈ g.Places, p.To = (v : Int) ∧ p.From = (u : Int) ∧ p.Tokens = 0) := by
  have hn := hg.hi
  have hn1 := hg.lo
  have hpl := hg.len
  have key : M.TC (spec_l12Free g) (fun a => ∃ f : Nat → Nat → Int, a = matF n n f ∧ ∀ v u, v < n → u < n → (f v u = 0 ∨ f v u = -1000000000000000) ∧ (f v u = 0 ↔ ∃ p ∈ g.Places, p.To = (v : Int) ∧ p.From = (u : Int) ∧ p.Tokens = 0)) := by
    unfold spec_l12Free
    rw [hg.ev]
    refine M.TC_bindC (spec_l02Bottom_ok (by omega) (by omega)) ?_
    refine M.TC_bind (Mid := fun (r : List (List Int) × Int) => ∃ f : Nat → Nat → Int, r.1 = matF n n f ∧ ∀ v u, v < n → u < n → (f v u = 0 ∨ f v u = -1000000000000000) ∧ (f v u = 0 ↔ ∃ p ∈ g.Places, p.To = (v : Int) ∧ p.From = (u : Int) ∧ p.Tokens = 0)) (M.TC_loop (fun (r : List (List Int) × Int) => ∃ (f : Nat → Nat → Int) (i : Nat), i ≤ g.Places.length ∧ r = (matF n n f, (i : Int)) ∧ ∀ v u, v < n → u < n → (f v u = 0 ∨ f v u = -1000000000000000) ∧ (f v u = 0 ↔ ∃ p ∈ g.Places.take i, p.To = (v : Int) ∧ p.From = (u : Int) ∧ p.Tokens = 0)) (fun r => (g.Places.length - r.2).toNat) _ ⟨_, 0, by omega, rfl, fun v u _ _ => ⟨.inr rfl, by simp⟩⟩ fun r hI => ?_) fun r hr => M.TC_ret hr
    obtain ⟨f, i, hi, rfl, hf⟩ := hI
    refine M.TC_ite (fun t => ?_) (fun t => M.TC_ret (.inr ⟨_, rfl, f, rfl, ?_⟩))
    · have hlt : i < g.Places.length := by have := of_decide_eq_true t; simp only at this; omega
      have hget : g.Places[i]? = some g.Places[i] := List.getElem?_eq_getElem hlt
      have hmem := List.getElem_mem hlt
      generalize g.Places[i] = p at hget hmem
      obtain ⟨f1, t1, k0, k5⟩ := hg.pl p hmem
      obtain ⟨v, hv⟩ : ∃ v : Nat, p.To = v := ⟨p.To.toNat, by omega⟩
      obtain ⟨u, hu⟩ : ∃ u : Nat, p.From = u := ⟨p.From.toNat, by omega⟩
      have hvn : v < n := by omega
      have hun : u < n := by omega
      have gp : M.Conv (M.idx g.Places (i : Int)) p := M.Conv_get (by omega) (by rw [Int.toNat_natCast]; exact hget)
      have htk : g.Places.take (i + 1) = g.Places.take i ++ [p] := by rw [List.take_add_one, hget]; rfl
      have ew : w64 ((i : Int) + 1) = ((i + 1 : Nat) : Int) := by rw [w64_eq _ (by omega)]; omega
      simp only
      refine M.TC_bindC gp ?_
      by_cases hz : p.Tokens = 0
      · refine M.TC_bindC (x := matF n n fun a b => if a = v ∧ b = u then 0 else f a b) (M.Conv_ite (fun _ => M.Conv_bind gp ?_) (fun t => by simp [hz] at t)) (M.TC_ret (.inl ⟨_, rfl, ⟨_, i + 1, by omega, by rw [ew], fun a b ha hb => ?_⟩, ?_⟩))
        · rw [hv]
          refine M.Conv_bind (idx_tab hvn) (M.Conv_bind gp ?_)
          rw [hu]
          refine M.Conv_bind (idx_tab hun) (M.Conv_bind (M.Conv_upd (by rw [tab_len]; exact hun)) ((M.Conv_ret _).of ?_))
          rw [Int.toNat_natCast]
          have := matF_set (m := n) (n := n) (i := v) (j := u) (f := f) (g := fun a b => if a = v ∧ b = u then 0 else f a b) (fun a b _ _ h => by rw [if_neg h])
          rw [if_pos ⟨rfl, rfl⟩] at this
          exact this
        · rw [htk]
          by_cases e : a = v ∧ b = u
          · obtain ⟨rfl, rfl⟩ := e
            rw [if_pos ⟨rfl, rfl⟩]
            exact ⟨.inl rfl, fun _ => ⟨p, by simp, hv, hu, hz⟩, fun _ => rfl⟩
          · rw [if_neg e]
            obtain ⟨h1, h2⟩ := hf a b ha hb
            refine ⟨h1, h2.trans ⟨fun ⟨q, hq, h⟩ => ⟨q, List.mem_append.2 (.inl hq), h⟩, fun ⟨q, hq, h3, h4, h5⟩ => ?_⟩⟩
            rcases List.mem_append.1 hq with hq | hq
            · exact ⟨q, hq, h3, h4, h5⟩
            · simp at hq; subst hq; omega
        · simp only; rw [ew]; omega
      · refine M.TC_bindC (x := matF n n f) (M.Conv_ite (fun t => by simp [hz] at t) (fun _ => M.Conv_ret _)) (M.TC_ret (.inl ⟨_, rfl, ⟨f, i + 1, by omega, by rw [ew], fun a b ha hb => ?_⟩, ?_⟩))
        · rw [htk]
          obtain ⟨h1, h2⟩ := hf a b ha hb
          refine ⟨h1, h2.trans ⟨fun ⟨q, hq, h⟩ => ⟨q, List.mem_append.2 (.inl hq), h⟩, fun ⟨q, hq, h3, h4, h5⟩ => ?_⟩⟩
          rcases List.mem_append.1 hq with hq | hq
          · exact ⟨q, hq, h3, h4, h5⟩
          · simp at hq; subst hq; exact absurd h5 hz
        · simp only; rw [ew]; omega
    · have : i = g.Places.length := by have := of_decide_eq_false t; simp only at this; omega
      subst this
      rw [List.take_length] at hf
      exact hf
  obtain ⟨_, c, f, rfl, h⟩ := key
  exact ⟨f, c, h⟩
theorem full_len : ∀ (n : Nat) (l : List Nat), (∀ e, e < n → e ∈ l) → n ≤ l.length
  | 0, _, _ => Nat.zero_le _
  | n + 1, l, h => by
    have hm := h n (by omega)
    have := full_len n (l.erase n) fun e he => (List.mem_erase_of_ne (by omega)).2 (h e (by omega))
    rw [List.length_erase_of_mem hm] at this
    have := List.length_pos_of_mem hm
    omega
/-- the node ahead of a node of a closed chain -/
theorem Cl.pred {a : List (List Int)} {n : Nat} {l : List Nat} {w : Int} (h : Cl a n l w) {v : Nat} (hv : v ∈ l) : ∃ u ∈ l, entA a v u ≠ -1000000000000000 := by
  obtain ⟨x, z, rfl⟩ := List.append_of_mem hv
  obtain ⟨h0, r, e, hc⟩ := h.rot
  simp only [List.cons_append, List.cons.injEq] at e
  obtain ⟨rfl, rfl⟩ := e
  rcases List.eq_nil_or_concat (z ++ x) with hz | ⟨y, t, hz⟩
  · simp only [List.cons_append, hz] at hc
    obtain ⟨_, _, _, ha⟩ := Chn.snoc_inv (x := []) hc
    exact ⟨v, hv, ha⟩
  · have hz : z ++ x = y ++ [t] := by simpa using hz
    have e2 : v :: z ++ x ++ [v] = (v :: y) ++ [t] ++ [v] := by
      rw [List.cons_append, hz]; rfl
    rw [e2] at hc
    obtain ⟨_, _, _, ha⟩ := Chn.snoc_inv hc
    refine ⟨t, ?_, ha⟩
    have : t ∈ z ++ x := by rw [hz]; simp
    simp only [List.mem_append, List.mem_cons] at this ⊢
    rcases this with h | h
    · exact .inr (.inr h)
    · exact .inl h
def Topo (ps : List TPlace) (l : List Nat) : Prop := ∀ (x : List Nat) (e : Nat) (y : List Nat), l = x ++ e :: y → ∀ p ∈ ps, p.To = (e : Int) → p.Tokens = 0 → ∃ u ∈ x, p.From = (u : Int)
theorem firing_ok {g : TGraph} {n : Nat} {f : Nat → Nat → Int} (hg : Gr g n) (hf : ∀ v u, v < n → u < n → (f v u = 0 ∨ f v u = -1000000000000000) ∧ (f v u = 0 ↔ ∃ p ∈ g.Places, p.To = (v : Int) ∧ p.From = (u : Int) ∧ p.Tokens = 0)) : M.TC (impl_isLive g) (fun b => b = true ↔ ∀ l w, ¬ WC (matF n n f) n l w) := by
  have hn := hg.hi
  have hn1 := hg.lo
  have hpl := hg.len
  have hcyc : (∃ l w, Cl (matF n n f) n l w) → ∃ l w, WC (matF n n f) n l w := fun ⟨l, w, h⟩ => by
    obtain ⟨l', w', h', _⟩ := Cl.written (P := fun _ _ => True) (fun _ _ _ _ _ => .inl trivial) _ rfl h trivial
    exact ⟨l', w', h'⟩
  have arc : ∀ v u, v < n → u < n → (entA (matF n n f) v u ≠ -1000000000000000 ↔ ∃ p ∈ g.Places, p.To = (v : Int) ∧ p.From = (u : Int) ∧ p.Tokens = 0) := fun v u hv hu => by
    rw [entA_matF hv hu, ← (hf v u hv hu).2]
    have := (hf v u hv hu).1
    omega
  have waits : ∀ (e : Nat) (ord : List Nat), ord.length ≤ 10 → M.Conv (slices_ContainsFunc_Place_F_impl_firingOrder_1 g.Places (e : Int) (toI ord)) (g.Places.any fun p => (p.To == (e : Int) && p.Tokens == 0) && !((toI ord).any fun x => p.From == x)) := fun e ord ho => by
    unfold slices_ContainsFunc_Place_F_impl_firingOrder_1 slices_IndexFunc_Place_F_impl_firingOrder_1
    refine contains_ok (l := g.Places) (fun (p : TPlace) => (p.To == (e : Int) && p.Tokens == 0) && !((toI ord).any fun x => p.From == x)) (by omega) fun i p hp => ?_
    refine M.Conv_bind (M.Conv_get (by omega) (by simpa using hp)) (M.Conv_bind (x := (p.To == (e : Int) && p.Tokens == 0) && !((toI ord).any fun x => p.From == x)) ?_ ?_)
    · unfold impl_firingOrder_1
      refine M.Conv_bind (x := (p.To == (e : Int) && p.Tokens == 0) && !((toI ord).any fun x => p.From == x)) (M.Conv_ite (fun t => M.Conv_bind (contains_neg (by simp; omega) _) ((M.Conv_ret _).of (by rw [t]; rfl))) (fun t => (M.Conv_ret _).of (by rw [t]; rfl))) (M.Conv_ret _)
    · cases ((p.To == (e : Int) && p.Tokens == 0) && !((toI ord).any fun x => p.From == x)) <;> exact M.Conv_ret _
  have any_mem : ∀ (ord : List Nat) (v : Int), ((toI ord).any fun x => v == x) = true ↔ ∃ u ∈ ord, v = (u : Int) := fun ord v => by
    simp only [List.any_eq_true, beq_iff_eq, toI, List.mem_map]
    exact ⟨fun ⟨x, ⟨u, hu, e⟩, h⟩ => ⟨u, hu, by omega⟩, fun ⟨u, hu, e⟩ => ⟨_, ⟨u, hu, rfl⟩, e⟩⟩
  unfold impl_isLive impl_firingOrder
  rw [hg.ev]
  refine M.TC_bind (Mid := fun (r : List Int × Bool) => r.2 = true ↔ ∀ l w, ¬ WC (matF n n f) n l w) (M.TC_bind (Mid := fun (y : List Int ⊕ (List Int × Bool)) => (∃ ord : List Nat, y = .inl (toI ord) ∧ Topo g.Places ord ∧ ∀ e, e < n → e ∈ ord) ∨ ∃ q, y = .inr (q, false) ∧ ∃ l w, Cl (matF n n f) n l w) (M.TC_loop (fun (s : List Int) => ∃ ord : List Nat, s = toI ord ∧ ord.Nodup ∧ (∀ e ∈ ord, e < n) ∧ Topo g.Places ord) (fun s => n - s.length) _ ⟨[], rfl, by simp, by simp, fun x e y h => by simp at h⟩ fun s hI => ?_) fun y hy => ?_) fun r hr => M.TC_ret hr
  · obtain ⟨ord, rfl, hnd, hlt, ht⟩ := hI
    have hol := nodup_lt n ord hnd hlt
    refine M.TC_ite (fun t => ?_) (fun t => M.TC_ret (.inr ⟨_, rfl, .inl ⟨ord, rfl, ht, fun e he => ?_⟩⟩))
    · have t : ord.length < n := by have := of_decide_eq_true t; simp at this; omega
      refine M.TC_bind (Mid := fun (r : Int × Int) => (r.1 < 0 ∧ ∀ e, e < n → e ∈ ord ∨ ∃ p ∈ g.Places, p.To = (e : Int) ∧ p.Tokens = 0 ∧ ∀ u ∈ ord, p.From ≠ (u : Int)) ∨ ∃ e : Nat, r.1 = e ∧ e < n ∧ e ∉ ord ∧ ∀ p ∈ g.Places, p.To = (e : Int) → p.Tokens = 0 → ∃ u ∈ ord, p.From = (u : Int)) (M.TC_loop (fun (r : Int × Int) => ∃ k : Nat, r.2 = k ∧ k ≤ n ∧ ((r.1 = -1 ∧ ∀ e, e < k → e ∈ ord ∨ ∃ p ∈ g.Places, p.To = (e : Int) ∧ p.Tokens = 0 ∧ ∀ u ∈ ord, p.From ≠ (u : Int)) ∨ ∃ e : Nat, r.1 = e ∧ e < n ∧ e ∉ ord ∧ ∀ p ∈ g.Places, p.To = (e : Int) → p.Tokens = 0 → ∃ u ∈ ord, p.From = (u : Int))) (fun r => (n - r.2).toNat) _ ⟨0, rfl, by omega, .inl ⟨rfl, fun e he => by omega⟩⟩ fun r hI => ?_) fun r hr => ?_
      · obtain ⟨nx, k'⟩ := r
        obtain ⟨k, rfl, hk, hI⟩ := hI
        simp only at hI ⊢
        refine M.TC_ite (fun t2 => ?_) (fun t2 => M.TC_ret (.inr ⟨_, rfl, ?_⟩))
        · simp only [Bool.and_eq_true, decide_eq_true_eq] at t2
          obtain ⟨t2, t3⟩ := t2
          have hk2 : k < n := by omega
          have ew : w64 ((k : Int) + 1) = ((k + 1 : Nat) : Int) := by rw [w64_eq _ (by omega)]; omega
          rw [ew]
          rcases hI with ⟨rfl, hI⟩ | ⟨e, rfl, _⟩
          · refine M.TC_bind (Mid := fun (v : Int) => (v = -1 ∧ (k ∈ ord ∨ ∃ p ∈ g.Places, p.To = (k : Int) ∧ p.Tokens = 0 ∧ ∀ u ∈ ord, p.From ≠ (u : Int))) ∨ (v = (k : Int) ∧ k ∉ ord ∧ ∀ p ∈ g.Places, p.To = (k : Int) → p.Tokens = 0 → ∃ u ∈ ord, p.From = (u : Int))) (M.TC_bindC (contains_neg (by simp; omega) _) (M.TC_ite (fun t => M.TC_ret (.inl ⟨rfl, .inl ?_⟩)) (fun t => M.TC_bindC (waits k ord (by omega)) (M.TC_ite (fun t2 => M.TC_ret (.inr ⟨rfl, ?_, ?_⟩)) (fun t2 => M.TC_ret (.inl ⟨rfl, .inr ?_⟩)))))) fun v hv => M.TC_ret (.inl ⟨_, rfl, ⟨k + 1, rfl, by omega, ?_⟩, by simp only; omega⟩)
            · obtain ⟨u, hu, e⟩ := (any_mem ord _).1 t
              have : u = k := by omega
              rwa [this] at hu
            · intro hm
              rw [(any_mem ord _).2 ⟨k, hm, rfl⟩] at t; cases t
            · intro p hp h1 h2
              simp only [Bool.not_eq_true', List.any_eq_false] at t2
              have := t2 p hp
              rw [show (p.To == (k : Int)) = true by simpa using h1, show (p.Tokens == 0) = true by simpa using h2] at this
              simp only [Bool.and_self, Bool.true_and, Bool.not_eq_true', Bool.not_eq_false] at this
              exact (any_mem ord _).1 (by simpa using this)
            · simp only [Bool.not_eq_false', List.any_eq_true, Bool.and_eq_true, beq_iff_eq, Bool.not_eq_true'] at t2
              obtain ⟨p, hp, ⟨h1, h2⟩, h3⟩ := t2
              refine ⟨p, hp, h1, h2, fun u hu e => ?_⟩
              rw [(any_mem ord _).2 ⟨u, hu, e⟩] at h3; cases h3
            · rcases hv with ⟨rfl, hv⟩ | ⟨rfl, hv1, hv2⟩
              · refine .inl ⟨rfl, fun e he => ?_⟩
                by_cases h : e = k
                · subst h; exact hv
                · exact hI e (by omega)
              · exact .inr ⟨k, rfl, hk2, hv1, hv2⟩
          · omega
        · rcases hI with ⟨rfl, hI⟩ | hI
          · simp at t2
            have : k = n := by omega
            subst this
            exact .inl ⟨by simp, hI⟩
          · exact .inr hI
      · rcases hr with ⟨h1, h2⟩ | ⟨e, h1, h2, h3, h4⟩
        · refine M.TC_ite (fun _ => M.TC_ret (.inr ⟨_, rfl, .inr ⟨_, rfl, ?_⟩⟩)) (fun t => absurd h1 (of_decide_eq_false t))
          -- stuck: go back for ever
          have back : ∀ k : Nat, ∃ u l w, u < n ∧ u ∉ ord ∧ l.length = k ∧ Chn (matF n n f) n (u :: l) w := by
            intro k
            induction k with
            | zero =>
              have : ∃ e, e < n ∧ e ∉ ord := Classical.byContradiction fun hc => by
                have := full_len n ord fun e he => Classical.byContradiction fun hm => hc ⟨e, he, hm⟩
                omega
              obtain ⟨e, he, hm⟩ := this
              exact ⟨e, [], 0, he, hm, rfl, .one e he⟩
            | succ k ih =>
              obtain ⟨u, l, w, hu, hm, hl, hc⟩ := ih
              obtain ⟨p, hp, p1, p2, p3⟩ := (h2 u hu).resolve_left hm
              obtain ⟨f1, t1, _⟩ := hg.pl p hp
              have hv : p.From.toNat < n := by omega
              have hvi : ((p.From.toNat : Nat) : Int) = p.From := by omega
              exact ⟨p.From.toNat, u :: l, _, hv, fun hm' => p3 _ hm' hvi.symm, by simp [hl], .cons _ u l w hv ((arc u _ hu hv).2 ⟨p, hp, p1, hvi.symm, p2⟩) hc⟩
          obtain ⟨u, l, w, hu, _, hl, hc⟩ := back n
          have hnn : ¬ (u :: l).Nodup := fun hd => by
            have := nodup_lt n _ hd hc.lt
            simp [hl] at this
            omega
          obtain ⟨x, v, y, z, e⟩ := dup_of hnn
          rw [e, List.append_assoc] at hc
          obtain ⟨_, w2, _, _, c2⟩ := Chn.split (v := v) (z := y ++ v :: z) (by simpa using hc)
          obtain ⟨w3, _, _, c3, _⟩ := Chn.split (x := v :: y) c2
          exact ⟨v :: y, w3, v, y, rfl, c3⟩
        · rw [h1]
          refine M.TC_ite (fun t => by have := of_decide_eq_true t; omega) (fun _ => M.TC_bindC ((M.Conv_app (by simp; omega)).of (r' := toI (ord ++ [e])) (by simp)) (M.TC_ret (.inl ⟨_, rfl, ⟨ord ++ [e], rfl, ?_, ?_, ?_⟩, ?_⟩)))
          · rw [List.nodup_append]
            exact ⟨hnd, by simp, fun b hb c hc ec => by simp at hc; subst hc; exact h3 (ec ▸ hb)⟩
          · intro u hu
            rcases List.mem_append.1 hu with hu | hu
            · exact hlt u hu
            · simp at hu; subst hu; exact h2
          · intro x e' y hxy p hp p1 p2
            rcases List.eq_nil_or_concat y with rfl | ⟨y', t', hy⟩
            · obtain ⟨hx, he⟩ := List.append_inj' hxy rfl
              cases he
              subst hx
              exact h4 p hp p1 p2
            · have hy : y = y' ++ [t'] := by simpa using hy
              subst hy
              have hxy : ord ++ [e] = (x ++ e' :: y') ++ [t'] := by simpa using hxy
              obtain ⟨hx, _⟩ := List.append_inj' hxy rfl
              exact ht x e' y' hx p hp p1 p2
          · simp; omega
    · have t : ¬ ord.length < n := by have := of_decide_eq_false t; simp at this; omega
      refine Classical.byContradiction fun hm => ?_
      have : (e :: ord).length ≤ n := nodup_lt n _ (List.nodup_cons.2 ⟨hm, hnd⟩) fun u hu => by
        rcases List.mem_cons.1 hu with rfl | hu
        · exact he
        · exact hlt u hu
      simp at this; omega
  · rcases hy with ⟨ord, rfl, ht, hall⟩ | ⟨q, rfl, hc⟩
    · refine M.TC_ret ⟨fun _ l w hw => ?_, fun _ => rfl⟩
      have none : ∀ k, ∀ e ∈ ord.take k, e ∉ l := by
        intro k
        induction k with
        | zero => intro e he; simp at he
        | succ k ih =>
          intro e he hel
          rw [List.take_add_one] at he
          rcases List.mem_append.1 he with he | he
          · exact ih e he hel
          · cases hk : ord[k]? with
            | none => rw [hk] at he; simp at he
            | some e' =>
              rw [hk] at he
              simp at he
              subst he
              have hkl := (List.getElem?_eq_some_iff.1 hk).1
              obtain ⟨u, hu, ha⟩ := hw.cl.pred hel
              obtain ⟨p, hp, p1, p2, p3⟩ := (arc e u (hw.cl.lt e hel) (hw.cl.lt u hu)).1 ha
              have hsp : ord = ord.take k ++ e :: ord.drop (k + 1) := by
                conv => lhs; rw [← List.take_append_drop k ord, List.drop_eq_getElem_cons hkl]
                rw [List.getElem?_eq_getElem hkl] at hk
                rw [Option.some.inj hk]
              obtain ⟨u', hu', e2⟩ := ht _ e _ hsp p hp p1 p3
              have : u' = u := by omega
              subst this
              exact ih u' hu' hu
      obtain ⟨h, r, e, _⟩ := id hw.cl
      have hh : h ∈ l := by rw [e]; simp
      have := hall h (hw.cl.lt h hh)
      exact none ord.length h (by rw [List.take_length]; exact this) hh
    · refine M.TC_ret ⟨fun t => (by cases t), fun h => ?_⟩
      obtain ⟨l, w, hw⟩ := hcyc hc
      exact absurd hw (h l w)
theorem same_IsLive (g : TGraph) (_ : okTGraph g) (sg : smG g) : Two (spec_IsLive g) (impl_IsLive g) (fun _ => True) := by
  have hl : g.Places.length ≤ 9223372036854775806 := by have := sg; unfold smG smP at this; omega
  unfold spec_IsLive impl_IsLive
  refine Two.bindC (spec_IsEventGraph_ok hl) (impl_IsEventGraph_ok hl) (Two.ite (fun _ => Two.ret _ trivial) (fun h => ?_))
  obtain ⟨n, hg⟩ := gr_of (by simpa using h)
  have hn := hg.hi
  have hn1 := hg.lo
  obtain ⟨f, f1, f2⟩ := free_ok hg
  have hsh : Shp (matF n n f) n := shp_of ⟨hn1, hn⟩ ⟨hn1, hn⟩
  have hln : (matF n n f).length = n := matF_len _ _ _
  have hE : Ent (matF n n f) n 0 := fun i j hi hj => by
    rw [entA_matF hi hj]
    have := (f2 i j hi hj).1
    omega
  obtain ⟨q, c1, hq⟩ := over_tc hsh hln (over := -1) hE (by omega) (by omega)
  obtain ⟨b, c2, hb⟩ := firing_ok hg f2
  refine Two.left (x := q) (M.Conv_bind f1 (M.Conv_bind c1 (M.Conv_ret _))) (Two.right c2 (Two.mk (r := (b, 0)) ((M.Conv_ret _).of (Prod.ext ?_ rfl)) (M.Conv_ret _) trivial))
  simp only
  have wz : ∀ l w, WC (matF n n f) n l w → w = 0 := fun l w hw => by
    obtain ⟨_, _, _, hc⟩ := hw.cl
    have := hc.bd hE (by omega)
    omega
  rcases hq with ⟨rfl, hq⟩ | ⟨l, w, rfl, hw, _⟩
  · exact (hb.2 fun l w hw => by have := wz l w hw; exact hq l w hw (by omega)).symm
  · have hne : toI l ≠ [] := by
      obtain ⟨_, _, e, _⟩ := hw.cl
      rw [e]; simp
    have h0 := List.length_pos_iff.2 hne
    have : b ≠ true := fun hbt => hb.1 hbt l w hw
    have this : b = false := by
      cases b with
      | true => exact absurd rfl this
      | false => rfl
    rw [this]
    simp only [beq_eq_false_iff_ne, ne_eq]
    omega

theorem FnExactIsLive_ok (aG : TGraph) (gaG : okTGraph aG) : M.Conv (laws_FnExactIsLive aG) true := by
  unfold laws_FnExactIsLive
  obtain ⟨zaG, hzaG, ssaG⟩ := szG_ok gaG
  refine M.Conv_bind hzaG ?_
  refine M.Conv_ite (fun _ => M.Conv_ret _) (fun qaG => ?_)
  have saG := ssaG qaG
  have nzaG := of_decide_eq_false qaG
  refine M.Conv_bind (toG_ok saG) ?_
  obtain ⟨w, hS, hI, hw⟩ := same_IsLive aG gaG saG
  refine M.Conv_bind hS ?_
  refine M.Conv_bind (toG_ok saG) ?_
  refine M.Conv_bind hI ?_
  refine M.Conv_ite (fun q => ?_) (fun _ => ?_)
  · exfalso; revert q; simp
  refine M.Conv_bind (toG_ok saG) ?_
  refine M.Conv_bind (eqG_refl saG) ?_
  refine M.Conv_ite (fun q => ?_) (fun _ => ?_)
  · exfalso; revert q; simp
  exact M.Conv_ret _

end Go.Proofs.Ytbemhgddkkggmaa
