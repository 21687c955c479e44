/-
  Plain proofs: the plain program of the law ends with true.
  Conditions: None beyond the given statement.
-/
import Derived.Test.YtipdgiljgbjjkaaP
namespace Go.Proofs.Ytipdgiljgbjjkaa
open Go
/-! ### plain programs: loops over a list -/
namespace M
variable {α β σ ρ : Type}
/-- rounds over the elements of a list, each with its place; a round may leave -/
def run (g : Nat → α → σ → σ ⊕ ρ) (fin : σ → ρ) : Nat → List α → σ → ρ
  | _, [], s => fin s
  | i, x :: xs, s => match g i x s with
    | .inl s' => run g fin (i + 1) xs s'
    | .inr r => r
theorem Conv_forN {l : List α} {f : Int → σ → M (σ ⊕ ρ)} (g : Nat → α → σ → σ ⊕ ρ) (fin : σ → ρ) (I : Nat → σ → Prop) (hi : Int) :
    ∀ (xs : List α) (i : Nat) (s : σ), hi = (i + xs.length : Nat) → I i s → (∀ (j : Nat) x s, xs[j]? = some x → I (i + j) s → Conv (f (i + j : Nat) s) (g (i + j) x s) ∧ ∀ s', g (i + j) x s = .inl s' → I (i + j + 1) s') →
      ∃ N, ∀ n, N ≤ n → forN hi fin f n xs.length i s = some (run g fin i xs s)
  | [], i, s, hh, _, _ => ⟨0, fun n _ => by
      have : ¬ (i : Int) < hi := by rw [hh]; simp
      simp [forN, run, this]⟩
  | x :: xs, i, s, hh, h0, H => by
    have hlt : (i : Int) < hi := by rw [hh]; simp; omega
    obtain ⟨⟨N, hN⟩, hI⟩ := H 0 x s rfl h0
    simp only [Nat.add_zero] at hN hI
    cases hg : g i x s with
    | inl s' =>
      have hi' := hI s' hg
      obtain ⟨N', hN'⟩ := Conv_forN (l := l) g fin I hi xs (i + 1) s' (by rw [hh, List.length_cons]; congr 1; omega) hi' (fun j y s hy hIs => by
        have := H (j + 1) y s (by simpa using hy) (by rw [← Nat.add_assoc, Nat.add_right_comm]; exact hIs)
        rw [show i + (j + 1) = i + 1 + j by omega] at this
        exact this)
      refine ⟨max N N', fun n hn => ?_⟩
      have h1 := hN n (by omega)
      rw [hg] at h1
      simp only [List.length_cons, forN, hlt, decide_true, cond_true, h1, run, hg]
      have := hN' n (by omega)
      simpa using this
    | inr r =>
      refine ⟨N, fun n hn => ?_⟩
      have h1 := hN n hn
      rw [hg] at h1
      simp only [List.length_cons, forN, hlt, decide_true, cond_true, h1, run, hg]
/-- a loop over a list, with an invariant -/
theorem Conv_forI {l : List α} {f : Int → σ → M (σ ⊕ ρ)} {fin : σ → ρ} {s : σ} (g : Nat → α → σ → σ ⊕ ρ) (I : Nat → σ → Prop) (hl : l.length ≤ 9223372036854775807) (h0 : I 0 s)
    (H : ∀ (i : Nat) x s, l[i]? = some x → I i s → Conv (f i s) (g i x s) ∧ ∀ s', g i x s = .inl s' → I (i + 1) s') : Conv (forI 0 (l.length : Int) fin f s) (run g fin 0 l s) := by
  obtain ⟨N, hN⟩ := Conv_forN (l := l) (f := f) g fin I (l.length : Int) l 0 s (by simp) h0 (fun j x s hx hI => by simpa using H j x s hx (by simpa using hI))
  refine ⟨N, fun n hn => ?_⟩
  have h1 : (l.length : Int) ≤ 9223372036854775807 := by omega
  simp only [forI, h1, decide_true, Bool.and_true, show (-9223372036854775808 : Int) ≤ 0 by decide, cond_true]
  have := hN n hn
  simpa using this
/-- .. without one -/
theorem Conv_forL {l : List α} {f : Int → σ → M (σ ⊕ ρ)} {fin : σ → ρ} {s : σ} (g : Nat → α → σ → σ ⊕ ρ) (hl : l.length ≤ 9223372036854775807)
    (H : ∀ (i : Nat) x s, l[i]? = some x → Conv (f i s) (g i x s)) : Conv (forI 0 (l.length : Int) fin f s) (run g fin 0 l s) :=
  Conv_forI g (fun _ _ => True) hl trivial fun i x s hx _ => ⟨H i x s hx, fun _ _ => trivial⟩
theorem Conv.of {m : M α} {r r' : α} (h : Conv m r) (e : r = r') : Conv m r' := e ▸ h
theorem Conv_ite {b : Bool} {x y : M α} {r : α} (h1 : b = true → Conv x r) (h2 : b = false → Conv y r) : Conv (ite b x y) r := by
  cases b
  · exact h2 rfl
  · exact h1 rfl
theorem Conv_ite2 {b : Bool} {x y : M α} {r s : α} (h1 : b = true → Conv x r) (h2 : b = false → Conv y s) : Conv (ite b x y) (bif b then r else s) := by
  cases b
  · exact h2 rfl
  · exact h1 rfl
theorem Conv_guard {b : Bool} (h : b = true) : Conv (guard b) () := ⟨0, fun _ _ => by simp [guard, h]⟩
theorem Conv_upd {l : List α} {i : Nat} {x : α} (h : i < l.length) : Conv (upd l i x) (l.set i x) := ⟨0, fun _ _ => by simp [upd, h]⟩
theorem Conv_get {l : List α} {i : Int} {x : α} (h0 : 0 ≤ i) (h : l[i.toNat]? = some x) : Conv (idx l i) x := ⟨0, fun _ _ => by simp [idx, h0, h]⟩
/-- a value told in both ways of a test, then the rest -/
theorem Conv_bite {b : Bool} {x y : M α} {f : α → M β} {u v : α} {r : β} (h1 : b = true → Conv x u) (h2 : b = false → Conv y v) (g : Conv (f (bif b then u else v)) r) : Conv (bind (ite b x y) f) r :=
  Conv_bind (Conv_ite2 h1 h2) g

/-! searches: a loop that leaves at the first element of a kind -/
theorem run_all (p : α → Bool) (u : Unit ⊕ ρ) : ∀ (i : Nat) (l : List α), run (ρ := Unit ⊕ ρ) (fun _ x _ => bif p x then .inl () else .inr u) (fun s => .inl s) i l () = bif l.all p then .inl () else u
  | _, [] => rfl
  | i, x :: xs => by
    simp only [run, List.all_cons]
    cases p x
    · rfl
    · simpa using run_all p u (i + 1) xs
/-- 'for .. if not p x, return v' -/
theorem Conv_all {l : List α} {f : Int → Unit → M (Unit ⊕ (Unit ⊕ ρ))} (p : α → Bool) (v : ρ) (hl : l.length ≤ 9223372036854775807) (H : ∀ (i : Nat) x, l[i]? = some x → Conv (f i ()) (bif p x then .inl () else .inr (.inr v))) :
    Conv (forI 0 (l.length : Int) (fun s => .inl s) f ()) (bif l.all p then .inl () else .inr v) :=
  (Conv_forL (fun _ x _ => bif p x then .inl () else .inr (.inr v)) hl fun i x _ hx => H i x hx).of (run_all p (.inr v) 0 l)
/-- the same, where the element's place matters to the test -/
theorem run_allI (p : Nat → α → Bool) (u : Unit ⊕ ρ) : ∀ (i : Nat) (l : List α), run (ρ := Unit ⊕ ρ) (fun j x _ => bif p j x then .inl () else .inr u) (fun s => .inl s) i l () = bif (l.zipIdx i).all (fun q => p q.2 q.1) then .inl () else u
  | _, [] => rfl
  | i, x :: xs => by
    simp only [run, List.zipIdx_cons, List.all_cons]
    cases p i x
    · rfl
    · simpa using run_allI p u (i + 1) xs
theorem Conv_allI {l : List α} {f : Int → Unit → M (Unit ⊕ (Unit ⊕ ρ))} (p : Nat → α → Bool) (v : ρ) (hl : l.length ≤ 9223372036854775807) (H : ∀ (i : Nat) x, l[i]? = some x → Conv (f i ()) (bif p i x then .inl () else .inr (.inr v))) :
    Conv (forI 0 (l.length : Int) (fun s => .inl s) f ()) (bif (l.zipIdx 0).all (fun q => p q.2 q.1) then .inl () else .inr v) :=
  (Conv_forL (fun j x _ => bif p j x then .inl () else .inr (.inr v)) hl fun i x _ hx => H i x hx).of (run_allI p (.inr v) 0 l)
/-- 'for i .. if p x, return i' -/
theorem run_find (p : α → Bool) : ∀ (i : Nat) (l : List α), run (σ := Unit) (ρ := Unit ⊕ Int) (fun j x _ => bif p x then .inr (.inr (j : Int)) else .inl ()) (fun s => .inl s) i l () = match l.findIdx? p with
    | some j => .inr ((i + j : Nat) : Int)
    | none => .inl ()
  | _, [] => rfl
  | i, x :: xs => by
    simp only [run, List.findIdx?_cons]
    cases hp : p x
    · simp only [cond_false, run_find p (i + 1) xs, Bool.false_eq_true, if_false]
      cases xs.findIdx? p with
      | none => rfl
      | some j => simp only [Option.map_some]; congr 2; omega
    · simp
theorem Conv_find {l : List α} {f : Int → Unit → M (Unit ⊕ (Unit ⊕ Int))} (p : α → Bool) (hl : l.length ≤ 9223372036854775807) (H : ∀ (i : Nat) x, l[i]? = some x → Conv (f i ()) (bif p x then .inr (.inr (i : Int)) else .inl ())) :
    Conv (forI 0 (l.length : Int) (fun s => .inl s) f ()) (match l.findIdx? p with | some j => .inr (j : Int) | none => .inl ()) :=
  (Conv_forL (fun j x _ => bif p x then .inr (.inr (j : Int)) else .inl ()) hl fun i x _ hx => H i x hx).of (by rw [run_find]; simp)
/-- sums: each round turns what has been gathered -/
theorem run_fold (g : σ → α → σ) : ∀ (i : Nat) (l : List α) (s : σ), run (fun _ x s => .inl (g s x)) (fun s => s) i l s = l.foldl g s
  | _, [], _ => rfl
  | i, x :: xs, s => by simpa [run] using run_fold g (i + 1) xs (g s x)
theorem Conv_fold {l : List α} {f : Int → σ → M (σ ⊕ σ)} {s : σ} (g : σ → α → σ) (hl : l.length ≤ 9223372036854775807) (H : ∀ (i : Nat) x s, l[i]? = some x → Conv (f i s) (.inl (g s x))) :
    Conv (forI 0 (l.length : Int) (fun s => s) f s) (l.foldl g s) :=
  (Conv_forL (fun _ x s => .inl (g s x)) hl fun i x s hx => H i x s hx).of (run_fold g 0 l s)
theorem get_set_append {l r : List α} {x y : α} : (l ++ y :: r).set l.length x = l ++ x :: r := by simp
/-- a loop that fills a list of the same length, element by element -/
theorem run_fill (g : Nat → α → β) (z : β) : ∀ (i : Nat) (l : List α) (d : List β), d.length = i →
    run (fun j x s => .inl (s.set j (g j x))) (fun s => s) i l (d ++ List.replicate l.length z) = d ++ (l.zipIdx i).map (fun q => g q.2 q.1)
  | _, [], d, _ => by simp [run]
  | i, x :: xs, d, hd => by
    subst hd
    simp only [run, List.length_cons, List.replicate_succ, get_set_append]
    have := run_fill g z (d.length + 1) xs (d ++ [g d.length x]) (by simp)
    simp only [List.append_assoc, List.singleton_append] at this
    rw [this]
    simp
theorem Conv_fill {l : List α} {f : Int → List β → M (List β ⊕ List β)} (g : Nat → α → β) (z : β) (hl : l.length ≤ 9223372036854775807)
    (H : ∀ (i : Nat) x s, l[i]? = some x → s.length = l.length → Conv (f i s) (.inl (s.set i (g i x)))) :
    Conv (forI 0 (l.length : Int) (fun s => s) f (List.replicate l.length z)) ((l.zipIdx 0).map (fun q => g q.2 q.1)) := by
  refine (Conv_forI (fun j x s => .inl (s.set j (g j x))) (fun _ s => s.length = l.length) hl (by simp) fun i x s hx hI => ⟨H i x s hx hI, fun s' e => ?_⟩).of ?_
  · cases e; simpa using hI
  · simpa using run_fill g z 0 l [] rfl
theorem zipIdx_map_fst {l : List α} {g : α → β} {i : Nat} : ((l.zipIdx i).map fun q => g q.1) = l.map g := by
  have h : List.map (g ∘ Prod.fst) (l.zipIdx i) = List.map g l := by rw [← List.map_map, List.zipIdx_map_fst]
  exact h
theorem findIdx_any {l : List α} {p : α → Bool} : (decide ((0:Int) ≤ match l.findIdx? p with | some j => (j : Int) | none => -1)) = l.any p := by
  cases h : l.findIdx? p with
  | none => rw [List.findIdx?_eq_none_iff] at h; simp; exact fun x hx => by simpa using h x hx
  | some j =>
    obtain ⟨hj, hp, _⟩ := List.findIdx?_eq_some_iff_getElem.1 h
    simp
    exact ⟨_, List.getElem_mem hj, hp⟩
end M
def finB (x : Int) : Bool := decide (-1000000 ≤ x) && decide (x ≤ 1000000)
def valB (x : Int) : Bool := x == (-1000000000000000) || finB x
theorem eqInt64S_ok {a b : List Int} (ha : a.length ≤ 9223372036854775807) : M.Conv (laws_eqInt64S a b) (decide (a = b)) := by
  unfold laws_eqInt64S
  refine M.Conv_ite (fun h => ?_) (fun h => ?_)
  · have : a ≠ b := by rintro rfl; simp at h
    rw [decide_eq_false this]; exact M.Conv_ret _
  · have hl : a.length = b.length := Int.ofNat.inj (by simpa using h)
    refine M.Conv_bind (M.Conv_allI (fun i x => b[i]? == some x) false ha fun i x hx => ?_) ?_
    · have hi := (List.getElem?_eq_some_iff.1 hx).1
      refine M.Conv_bind (M.Conv_get (by omega) (by simpa using hx)) ?_
      refine M.Conv_bind (M.Conv_get (x := b[i]) (by omega) (by simp [show i < b.length by omega])) ?_
      have hb : (b[i]? == some x) = !(x != b[i]) := by rw [List.getElem?_eq_getElem (by omega), bne, Bool.not_not, Option.some_beq_some, BEq.comm]
      rw [hb]
      cases (x != b[i]) <;> exact M.Conv_ret _
    · have key : ((a.zipIdx 0).all fun q => b[q.2]? == some q.1) = decide (a = b) := by
        by_cases e : a = b
        · subst e
          rw [decide_eq_true rfl, List.all_eq_true]
          rintro ⟨x, i⟩ hq
          have := List.mk_mem_zipIdx_iff_getElem?.1 hq
          simp [this]
        · rw [decide_eq_false e, Bool.eq_false_iff]
          intro h
          apply e
          rw [List.all_eq_true] at h
          refine List.ext_getElem hl fun i h1 h2 => ?_
          have := h (a[i], i) (List.mk_mem_zipIdx_iff_getElem?.2 (List.getElem?_eq_getElem h1))
          simp [h2] at this
          exact this.symm
      rw [key]
      cases decide (a = b) <;> exact M.Conv_ret _
theorem spec_l01In_ok (x lo hi : Int) : M.Conv (spec_l01In x lo hi) (decide (lo ≤ x) && decide (x ≤ hi)) := M.Conv_ret _
theorem impl_within_ok (x lo hi : Int) : M.Conv (impl_within x lo hi) (decide (lo ≤ x) && decide (x ≤ hi)) := M.Conv_ret _
/-- 'slices.ContainsFunc', behind 'slices.IndexFunc' -/
theorem contains_ok {α : Type} {l : List α} {f : Int → Unit → M (Unit ⊕ (Unit ⊕ Int))} (p : α → Bool) (hl : l.length ≤ 9223372036854775807) (H : ∀ (i : Nat) x, l[i]? = some x → M.Conv (f i ()) (bif p x then .inr (.inr (i : Int)) else .inl ())) :
    M.Conv (M.bind (M.bind (M.forI 0 (l.length : Int) (fun s => .inl s) f ()) (fun x1 => M.cont x1 (fun _ => M.ret (-1)) (fun r => M.ret r))) (fun x1 => M.ret (decide (0 ≤ x1)))) (l.any p) := by
  rw [← M.findIdx_any]
  refine M.Conv_bind (M.Conv_bind (M.Conv_find p hl H) ?_) (M.Conv_ret _)
  cases l.findIdx? p <;> exact M.Conv_ret _
theorem any_not {α : Type} {l : List α} {p : α → Bool} : (!l.any fun x => !p x) = l.all p := by
  induction l with
  | nil => rfl
  | cons x xs ih => simp only [List.any_cons, List.all_cons, Bool.not_or, Bool.not_not, ih]
theorem mx_eq (a b : Int) : mx a b = max a b := by unfold mx; split <;> omega
def smI (l : List Int) : Prop := l.length ≤ 1099511627776
theorem finB_bd {x : Int} (h : finB x = true) : -1000000 ≤ x ∧ x ≤ 1000000 := by simpa [finB] using h
theorem val_ne {x : Int} (h : valB x = true) (hn : (x == (-1000000000000000)) = false) : finB x = true := by simpa [valB, hn] using h
/-- two programs, one answer -/
def Two {α : Type} (m m' : M α) (Post : α → Prop) : Prop := ∃ r, M.Conv m r ∧ M.Conv m' r ∧ Post r
theorem Two.ret {α : Type} {Post : α → Prop} (r : α) (p : Post r) : Two (M.ret r) (M.ret r) Post := ⟨r, M.Conv_ret _, M.Conv_ret _, p⟩
theorem Two.bind {α β : Type} {m m' : M α} {f f' : α → M β} {P : α → Prop} {Q : β → Prop} (h : Two m m' P) (g : ∀ x, P x → Two (f x) (f' x) Q) : Two (M.bind m f) (M.bind m' f') Q := by
  obtain ⟨x, h1, h2, p⟩ := h
  obtain ⟨r, g1, g2, q⟩ := g x p
  exact ⟨r, M.Conv_bind h1 g1, M.Conv_bind h2 g2, q⟩
theorem Two.bindC {α α' β : Type} {m : M α} {m' : M α'} {f : α → M β} {f' : α' → M β} {Q : β → Prop} {x : α} {x' : α'} (h : M.Conv m x) (h' : M.Conv m' x') (g : Two (f x) (f' x') Q) : Two (M.bind m f) (M.bind m' f') Q := by
  obtain ⟨r, g1, g2, q⟩ := g
  exact ⟨r, M.Conv_bind h g1, M.Conv_bind h' g2, q⟩
theorem Two.left {α β : Type} {m : M α} {m' : M β} {f : α → M β} {Q : β → Prop} {x : α} (h : M.Conv m x) (g : Two (f x) m' Q) : Two (M.bind m f) m' Q := by
  obtain ⟨r, g1, g2, q⟩ := g
  exact ⟨r, M.Conv_bind h g1, g2, q⟩
theorem Two.right {α β : Type} {m : M α} {m' : M β} {f : α → M β} {Q : β → Prop} {x : α} (h : M.Conv m x) (g : Two m' (f x) Q) : Two m' (M.bind m f) Q := by
  obtain ⟨r, g1, g2, q⟩ := g
  exact ⟨r, g1, M.Conv_bind h g2, q⟩
theorem Two.ite {α : Type} {b : Bool} {x y x' y' : M α} {Q : α → Prop} (h1 : b = true → Two x x' Q) (h2 : b = false → Two y y' Q) : Two (M.ite b x y) (M.ite b x' y') Q := by
  cases b
  · exact h2 rfl
  · exact h1 rfl
theorem Two.iteL {α : Type} {b : Bool} {x y m' : M α} {Q : α → Prop} (h1 : b = true → Two x m' Q) (h2 : b = false → Two y m' Q) : Two (M.ite b x y) m' Q := by
  cases b
  · exact h2 rfl
  · exact h1 rfl
theorem Two.iteR {α : Type} {b : Bool} {x y m' : M α} {Q : α → Prop} (h1 : b = true → Two m' x Q) (h2 : b = false → Two m' y Q) : Two m' (M.ite b x y) Q := by
  cases b
  · exact h2 rfl
  · exact h1 rfl
theorem Two.mono {α : Type} {m m' : M α} {P Q : α → Prop} (h : Two m m' P) (hp : ∀ r, P r → Q r) : Two m m' Q := let ⟨r, a, b, c⟩ := h; ⟨r, a, b, hp r c⟩
theorem two_forN {σ ρ : Type} {hi : Int} {fin : σ → ρ} {f f' : Int → σ → M (σ ⊕ ρ)} {Post : ρ → Prop} (I : Int → σ → Prop) (lo : Int)
    (round : ∀ i s, lo ≤ i → i < hi → I i s → Two (f i s) (f' i s) fun y => (∃ s', y = .inl s' ∧ I (i + 1) s') ∨ (∃ r, y = .inr r ∧ Post r)) :
    ∀ (d : Nat) (i : Int) (s : σ), (hi - i).toNat = d → lo ≤ i → (i ≤ hi ∨ i = lo) → I i s → (∀ i s, (i = hi ∨ i = lo ∧ hi ≤ lo) → I i s → Post (fin s)) → ∃ r, (∃ N, ∀ n, N ≤ n → M.forN hi fin f n d i s = some r) ∧ (∃ N, ∀ n, N ≤ n → M.forN hi fin f' n d i s = some r) ∧ Post r
  | 0, i, s, hd, h1, h2, hI, fi => by
    have hge : ¬ i < hi := by omega
    exact ⟨fin s, ⟨0, fun n _ => by simp [M.forN, hge]⟩, ⟨0, fun n _ => by simp [M.forN, hge]⟩, fi i s (by omega) hI⟩
  | d + 1, i, s, hd, h1, h2, hI, fi => by
    have hlt : i < hi := by omega
    obtain ⟨y, ⟨N, hy⟩, ⟨N', hy'⟩, hc⟩ := round i s h1 hlt hI
    rcases hc with ⟨s', rfl, hI'⟩ | ⟨r, rfl, hp⟩
    · obtain ⟨r, ⟨N1, h3⟩, ⟨N2, h4⟩, hp⟩ := two_forN (fin := fin) I lo round d (i + 1) s' (by omega) (by omega) (by omega) hI' fi
      exact ⟨r, ⟨max N N1, fun n hn => by simp [M.forN, hlt, hy n (by omega), h3 n (by omega)]⟩, ⟨max N' N2, fun n hn => by simp [M.forN, hlt, hy' n (by omega), h4 n (by omega)]⟩, hp⟩
    · exact ⟨r, ⟨N, fun n hn => by simp [M.forN, hlt, hy n hn]⟩, ⟨N', fun n hn => by simp [M.forN, hlt, hy' n hn]⟩, hp⟩
theorem Two.for {σ ρ : Type} {lo hi : Int} {fin : σ → ρ} {f f' : Int → σ → M (σ ⊕ ρ)} {s : σ} {Post : ρ → Prop} (I : Int → σ → Prop) (hlo : -9223372036854775808 ≤ lo) (hhi : hi ≤ 9223372036854775807) (h0 : I lo s)
    (round : ∀ i s, lo ≤ i → i < hi → I i s → Two (f i s) (f' i s) fun y => (∃ s', y = .inl s' ∧ I (i + 1) s') ∨ (∃ r, y = .inr r ∧ Post r)) (done : ∀ i s, (i = hi ∨ i = lo ∧ hi ≤ lo) → I i s → Post (fin s)) :
    Two (M.forI lo hi fin f s) (M.forI lo hi fin f' s) Post := by
  obtain ⟨r, ⟨N, h1⟩, ⟨N', h2⟩, hp⟩ := two_forN (fin := fin) I lo round _ lo s rfl (Int.le_refl _) (.inr rfl) h0 done
  exact ⟨r, ⟨N, fun n hn => by simp [M.forI, hlo, hhi, h1 n hn]⟩, ⟨N', fun n hn => by simp [M.forI, hlo, hhi, h2 n hn]⟩, hp⟩
def timesI (a b : Int) : Int := bif (a == (-1000000000000000)) || (b == (-1000000000000000)) then (-1000000000000000) else w64 (a + b)
theorem spec_l01Times_ok (a b : Int) : M.Conv (spec_l01Times a b) (timesI a b) := M.Conv_ite2 (fun _ => M.Conv_ret _) (fun _ => M.Conv_ret _)
theorem eqLoop_ok {a b : List Int} (ha : a.length ≤ 9223372036854775807) (hl : a.length = b.length) : M.Conv (M.forI 0 (a.length : Int) (fun s => .inl s) (fun i1 => (fun (_ : Unit) => M.bind (M.idx a i1) (fun x2 => M.bind (M.idx b i1) (fun x3 => M.ite (x2 != x3) (M.ret (.inr (.inr false))) (M.ret (.inl ())))))) ()) (bif decide (a = b) then (.inl () : Unit ⊕ Bool) else .inr false) := by
  have h := eqInt64S_ok (b := b) ha
  refine (M.Conv_allI (fun i x => b[i]? == some x) false ha fun i x hx => ?_).of ?_
  · have hi := (List.getElem?_eq_some_iff.1 hx).1
    refine M.Conv_bind (M.Conv_get (by omega) (by simpa using hx)) ?_
    refine M.Conv_bind (M.Conv_get (x := b[i]) (by omega) (by simp [show i < b.length by omega])) ?_
    have hb : (b[i]? == some x) = !(x != b[i]) := by rw [List.getElem?_eq_getElem (by omega), bne, Bool.not_not, Option.some_beq_some, BEq.comm]
    rw [hb]
    cases (x != b[i]) <;> exact M.Conv_ret _
  · have key : ((a.zipIdx 0).all fun q => b[q.2]? == some q.1) = decide (a = b) := by
      by_cases e : a = b
      · subst e
        rw [decide_eq_true rfl, List.all_eq_true]
        rintro ⟨x, i⟩ hq
        have := List.mk_mem_zipIdx_iff_getElem?.1 hq
        simp [this]
      · rw [decide_eq_false e, Bool.eq_false_iff]
        intro h
        apply e
        rw [List.all_eq_true] at h
        refine List.ext_getElem hl fun i h1 h2 => ?_
        have := h (a[i], i) (List.mk_mem_zipIdx_iff_getElem?.2 (List.getElem?_eq_getElem h1))
        simp [h2] at this
        exact this.symm
    rw [key]
theorem spec_l01Same_ok {a b : List Int} (ha : a.length ≤ 9223372036854775807) : M.Conv (spec_l01Same a b) (decide (a = b)) := by
  unfold spec_l01Same
  refine M.Conv_ite (fun h => ?_) (fun h => ?_)
  · have : a ≠ b := by rintro rfl; simp at h
    rw [decide_eq_false this]; exact M.Conv_ret _
  · have hl : a.length = b.length := Int.ofNat.inj (by simpa using h)
    refine M.Conv_bind (eqLoop_ok ha hl) ?_
    cases decide (a = b) <;> exact M.Conv_ret _
theorem Conv_fillN {β : Type} {n : Nat} {f : Int → List β → M (List β ⊕ List β)} (g : Nat → β) (z : β) (hl : n ≤ 9223372036854775807)
    (H : ∀ (i : Nat) (s : List β), i < n → s.length = n → M.Conv (f i s) (.inl (s.set i (g i)))) : M.Conv (M.forI 0 (n : Int) (fun s => s) f (List.replicate n z)) ((List.range n).map g) := by
  have h := M.Conv_fill (l := List.replicate n z) (f := f) (fun i _ => g i) z (by simpa using hl) (fun i x s hx hs => H i s (by simpa using (List.getElem?_eq_some_iff.1 hx).1) (by simpa using hs))
  simp only [List.length_replicate] at h
  refine h.of (List.ext_getElem? fun i => ?_)
  by_cases hi : i < n
  · simp [hi]
  · rw [List.getElem?_eq_none (by simp; omega), List.getElem?_eq_none (by simp; omega)]
theorem spec_l01Own_ok {l : List Int} (h : smI l) : M.Conv (spec_l01Own l) l := by
  unfold smI at h
  exact M.Conv_bind (M.Conv_app (by simp; omega)) ((M.Conv_ret _).of (by simp))
def okTPlace (p : TPlace) : Prop := inI64 p.From ∧ inI64 p.To ∧ inI64 p.Delay ∧ inI64 p.Tokens
def okTGraph (g : TGraph) : Prop := inI64 g.Events ∧ fitL okTPlace g.Places
def smP (l : List TPlace) : Prop := l.length ≤ 1099511627
def smG (g : TGraph) : Prop := smP g.Places
theorem szG_ok {g : TGraph} (h : okTGraph g) : ∃ z, M.Conv (laws_szEventGraph g 1048576) z ∧ (decide (z < 0) = false → smG g) := by
  have hl := h.2.1
  unfold laws_szEventGraph laws_szPlaceS
  have e : w64 (1048576 - (g.Places.length : Int)) = 1048576 - g.Places.length := w64_eq _ (by omega)
  rw [e]
  by_cases h1 : (1048576 : Int) - g.Places.length < 0
  · refine ⟨-1, M.Conv_bind (x := -1) (M.Conv_ite (fun _ => M.Conv_ret _) (fun q => by have := of_decide_eq_false q; omega)) (M.Conv_ite (fun _ => M.Conv_ret _) (fun q => by simp at q)), fun q => by simp at q⟩
  · refine ⟨1048576 - (g.Places.length : Int), M.Conv_bind (x := 1048576 - (g.Places.length : Int)) (M.Conv_ite (fun q => absurd (of_decide_eq_true q) h1) (fun _ => M.Conv_ret _)) (M.Conv_ite (fun q => absurd (of_decide_eq_true q) h1) (fun _ => M.Conv_ret _)), fun _ => ?_⟩
    simp only [smG, smP]; omega
theorem toPlace_ok {p : TPlace} : M.Conv (laws_toPlace p) p := M.Conv_ret _
theorem toPlaceS_ok {a : List TPlace} (h : smP a) : M.Conv (laws_toPlaceS a) a := by
  unfold smP at h
  unfold laws_toPlaceS
  refine M.Conv_bind (M.Conv_make (by omega) (by omega)) ?_
  refine M.Conv_bind (x := a) (((M.Conv_fill (l := a) (f := _) (fun _ x => x) _ (by omega) fun i x s hx hs => ?_)).of ?_) (M.Conv_ret _)
  · have hi := (List.getElem?_eq_some_iff.1 hx).1
    refine M.Conv_bind (M.Conv_get (by omega) (by simpa using hx)) (M.Conv_bind toPlace_ok ?_)
    refine M.Conv_bind (M.Conv_get (x := s[i]) (by omega) (by simp [show i < s.length by omega])) ?_
    exact M.Conv_bind (M.Conv_upd (by omega)) (M.Conv_ret _)
  · exact M.zipIdx_map_fst.trans (List.map_id' _)
theorem toG_ok {g : TGraph} (h : smG g) : M.Conv (laws_toEventGraph g) g := M.Conv_bind (toPlaceS_ok h) (M.Conv_ret _)
theorem eqPlace_refl {p : TPlace} : M.Conv (laws_eqPlace p p) true := by
  unfold laws_eqPlace
  refine M.Conv_ite (fun q => by simp at q) (fun _ => M.Conv_ite (fun q => by simp at q) (fun _ => M.Conv_ite (fun q => by simp at q) (fun _ => M.Conv_ite (fun q => by simp at q) (fun _ => M.Conv_ret _))))
theorem eqPlaceS_refl {a : List TPlace} (h : smP a) : M.Conv (laws_eqPlaceS a a) true := by
  unfold smP at h
  unfold laws_eqPlaceS
  refine M.Conv_ite (fun q => by simp at q) (fun _ => M.Conv_bind (M.Conv_all (fun _ => true) false (by omega) fun i x hx => ?_) ?_)
  case refine_2 => rw [show (a.all fun _ => true) = true by simp]; exact M.Conv_ret _
  have hg : M.Conv (M.idx a i) x := M.Conv_get (by omega) (by simpa using hx)
  exact M.Conv_bind hg (M.Conv_bind hg (M.Conv_bind eqPlace_refl (M.Conv_ite (fun q => by simp at q) (fun _ => M.Conv_ret _))))
theorem eqG_refl {g : TGraph} (h : smG g) : M.Conv (laws_eqEventGraph g g) true := by
  unfold laws_eqEventGraph
  refine M.Conv_ite (fun q => by simp at q) (fun _ => M.Conv_bind (eqPlaceS_refl h) (M.Conv_ite (fun q => by simp at q) (fun _ => M.Conv_ret _)))
theorem Conv_and {b v : Bool} {m : M Bool} (h : b = true → M.Conv m v) : M.Conv (M.ite b (M.bind m (fun x => M.ret x)) (M.ret false)) (b && v) := by
  refine M.Conv_ite (fun q => ?_) (fun q => ?_)
  · rw [q]; exact M.Conv_bind (h q) (M.Conv_ret _)
  · rw [q]; exact M.Conv_ret _
def inB (x lo hi : Int) : Bool := decide (lo ≤ x) && decide (x ≤ hi)
def placeB (e : Int) (p : TPlace) : Bool := ((inB p.From 0 (w64 (e - 1)) && inB p.To 0 (w64 (e - 1))) && inB p.Delay 0 1000) && inB p.Tokens 0 5
theorem spec_l11Place_ok (p : TPlace) (e : Int) : M.Conv (spec_l11Place p e) (placeB e p) :=
  M.Conv_bind (spec_l01In_ok _ _ _) (M.Conv_bind (Conv_and fun _ => spec_l01In_ok _ _ _) (M.Conv_bind (Conv_and fun _ => spec_l01In_ok _ _ _) (M.Conv_bind (Conv_and fun _ => spec_l01In_ok _ _ _) (M.Conv_ret _))))
theorem impl_isEvent_ok (g : TGraph) (e : Int) : M.Conv (impl_isEvent g e) (inB e 0 (w64 (g.Events - 1))) := M.Conv_bind (impl_within_ok _ _ _) (M.Conv_ret _)
theorem impl_isPlace_ok (g : TGraph) (p : TPlace) : M.Conv (impl_isPlace g p) (placeB g.Events p) :=
  M.Conv_bind (impl_isEvent_ok _ _) (M.Conv_bind (Conv_and fun _ => impl_isEvent_ok _ _) (M.Conv_bind (Conv_and fun _ => impl_within_ok _ _ _) (M.Conv_bind (Conv_and fun _ => impl_within_ok _ _ _) (M.Conv_ret _))))
def graphB (g : TGraph) : Bool := (inB g.Events 1 10 && decide (g.Places.length ≤ 30)) && g.Places.all (placeB g.Events)
/-- 'for i < len(l)', the counter a variable; a round may leave -/
def runO {α ρ : Type} (g : Nat → α → Option ρ) (e : ρ) : Nat → List α → ρ
  | _, [] => e
  | i, x :: xs => match g i x with | none => runO g e (i + 1) xs | some r => r
theorem Conv_while {α ρ : Type} {l : List α} {f : Int → M (Int ⊕ ρ)} (g : Nat → α → Option ρ) (e : ρ) (step : ∀ (i : Nat) x, l[i]? = some x → M.Conv (f i) (match g i x with | none => .inl ((i : Int) + 1) | some r => .inr r)) (stop : M.Conv (f (l.length : Int)) (.inr e)) :
    M.Conv (M.loop f 0) (runO g e 0 l) := by
  have key : ∀ (xs : List α) (i : Nat), (∀ (j : Nat) x, xs[j]? = some x → M.Conv (f (i + j : Nat)) (match g (i + j) x with | none => .inl (((i + j : Nat) : Int) + 1) | some r => .inr r)) → M.Conv (f (i + xs.length : Nat)) (.inr e) →
      ∃ N m0, ∀ n, N ≤ n → ∀ m, m0 ≤ m → M.loopN f n m (i : Int) = some (runO g e i xs) := by
    intro xs
    induction xs with
    | nil =>
      intro i _ ⟨N, h⟩
      refine ⟨N, 1, fun n hn m hm => ?_⟩
      obtain ⟨m, rfl⟩ : ∃ q, m = q + 1 := ⟨m - 1, by omega⟩
      have := h n hn
      simp only [List.length_nil, Nat.add_zero] at this
      simp [M.loopN, this, runO]
    | cons x xs ih =>
      intro i hs hst
      obtain ⟨N, h⟩ := hs 0 x rfl
      simp only [Nat.add_zero] at h
      cases hg : g i x with
      | none =>
        obtain ⟨N', m0, h'⟩ := ih (i + 1) (fun j y hy => by have := hs (j + 1) y (by simpa using hy); rw [show i + (j + 1) = i + 1 + j by omega] at this; exact this) (by rw [show i + 1 + xs.length = i + (x :: xs).length by simp; omega]; exact hst)
        refine ⟨max N N', m0 + 1, fun n hn m hm => ?_⟩
        obtain ⟨m, rfl⟩ : ∃ q, m = q + 1 := ⟨m - 1, by omega⟩
        have h1 := h n (by omega)
        rw [hg] at h1
        simp only [M.loopN, h1, runO, hg]
        exact h' n (by omega) m (by omega)
      | some r =>
        refine ⟨N, 1, fun n hn m hm => ?_⟩
        obtain ⟨m, rfl⟩ : ∃ q, m = q + 1 := ⟨m - 1, by omega⟩
        have h1 := h n hn
        rw [hg] at h1
        simp only [M.loopN, h1, runO, hg]
  obtain ⟨N, m0, h⟩ := key l 0 (fun j x hx => by simpa using step j x hx) (by simpa using stop)
  exact ⟨max N m0, fun n hn => h n (by omega) n (by omega)⟩
theorem runO_all {α ρ : Type} (p : α → Bool) (r e : ρ) : ∀ (l : List α) (i : Nat), runO (fun _ x => bif p x then none else some r) e i l = bif l.all p then e else r
  | [], _ => rfl
  | x :: xs, i => by
    simp only [runO, List.all_cons]
    cases p x with
    | true => simpa using runO_all p r e xs (i + 1)
    | false => rfl
theorem spec_IsEventGraph_ok {g : TGraph} (hl : g.Places.length ≤ 9223372036854775806) : M.Conv (spec_IsEventGraph g) (graphB g) := by
  unfold spec_IsEventGraph
  refine M.Conv_bind ((Conv_while (l := g.Places) (fun _ p => bif placeB g.Events p then none else some (.inr false)) (.inl (g.Places.length : Int)) (fun i p hp => ?_) ?_).of (runO_all _ _ _ _ _)) ?_
  · have hi := (List.getElem?_eq_some_iff.1 hp).1
    refine M.Conv_ite (fun _ => M.Conv_bind (M.Conv_get (by omega) (by simpa using hp)) (M.Conv_bind (spec_l11Place_ok _ _) (M.Conv_ite (fun q => ?_) (fun q => ?_)))) (fun q => by have := of_decide_eq_false q; omega)
    · simp only [Bool.not_eq_true'] at q; rw [q]; exact M.Conv_ret _
    · simp only [Bool.not_eq_false'] at q; rw [q]; exact (M.Conv_ret _).of (by rw [w64_eq _ (by omega)]; rfl)
  · exact M.Conv_ite (fun q => by have := of_decide_eq_true q; omega) (fun _ => M.Conv_ret _)
  · cases hb : g.Places.all (placeB g.Events) with
    | false => exact (M.Conv_ret _).of (by simp [graphB, hb])
    | true =>
      show M.Conv (M.bind (spec_l01In g.Events 1 10) (fun x4 => M.ret (x4 && (decide ((g.Places.length : Int) ≤ 30))))) _
      refine M.Conv_bind (spec_l01In_ok _ _ _) ((M.Conv_ret _).of ?_)
      simp only [graphB, hb, inB, Bool.and_true]
      rw [decide_eq_decide.2 (show (g.Places.length : Int) ≤ 30 ↔ g.Places.length ≤ 30 by omega)]
theorem impl_IsEventGraph_ok {g : TGraph} (hl : g.Places.length ≤ 9223372036854775806) : M.Conv (impl_IsEventGraph g) (graphB g) := by
  unfold impl_IsEventGraph slices_ContainsFunc_Place_F_impl_IsEventGraph_1 slices_IndexFunc_Place_F_impl_IsEventGraph_1
  refine M.Conv_bind (impl_within_ok _ _ _) (M.Conv_bind (x := graphB g) ?_ (M.Conv_ret _))
  have e : ((decide (1 ≤ g.Events) && decide (g.Events ≤ 10)) && decide ((g.Places.length : Int) ≤ 30)) = (inB g.Events 1 10 && decide (g.Places.length ≤ 30)) := by
    rw [decide_eq_decide.2 (show (g.Places.length : Int) ≤ 30 ↔ g.Places.length ≤ 30 by omega)]; rfl
  rw [e]
  refine M.Conv_ite (fun q => ?_) (fun q => (M.Conv_ret _).of (by simp [graphB, q]))
  refine M.Conv_bind (contains_ok (fun p => !placeB g.Events p) (by omega) fun i p hp => ?_) ((M.Conv_ret _).of ?_)
  · refine M.Conv_bind (M.Conv_get (by omega) (by simpa using hp)) (M.Conv_bind (x := !placeB g.Events p) (M.Conv_bind (impl_isPlace_ok _ _) (M.Conv_ret _)) ?_)
    cases placeB g.Events p <;> exact M.Conv_ret _
  · rw [any_not]; simp [graphB, q]
def widthN (a : List (List Int)) : Nat := (a.headD []).length
def matB (a : List (List Int)) : Bool := (decide (1 ≤ a.length) && decide (a.length ≤ 10)) && ((decide (1 ≤ widthN a) && decide (widthN a ≤ 10)) && a.all fun r => decide (r.length = widthN a) && r.all valB)
/-- a matrix of w columns -/
structure Mat (a : List (List Int)) (w : Nat) : Prop where
  rows : 1 ≤ a.length ∧ a.length ≤ 10
  cols : 1 ≤ w ∧ w ≤ 10
  row : ∀ r ∈ a, r.length = w ∧ ∀ x ∈ r, valB x = true
def foldI {α σ : Type} (g : Nat → α → σ → σ) : Nat → List α → σ → σ
  | _, [], s => s
  | i, x :: xs, s => foldI g (i + 1) xs (g i x s)
theorem val_cases {x : Int} (h : valB x = true) : x = -1000000000000000 ∨ (-1000000 ≤ x ∧ x ≤ 1000000) := by
  cases hb : (x == (-1000000000000000)) with
  | true => left; simpa using hb
  | false => right; exact finB_bd (val_ne h hb)
theorem Mat.get {a : List (List Int)} {w i : Nat} {row : List Int} (hm : Mat a w) (h : a[i]? = some row) {j : Nat} (hj : j < w) : M.Conv (M.idx row (j : Int)) ((row[j]?).getD 0) ∧ valB ((row[j]?).getD 0) = true := by
  obtain ⟨e1, e2⟩ := hm.row row (List.mem_of_getElem? h)
  rw [List.getElem?_eq_getElem (by omega)]
  exact ⟨M.Conv_get (by omega) (by simp [show j < row.length by omega]), e2 _ (List.getElem_mem _)⟩
theorem get_row {a : List (List Int)} {i : Nat} {row : List Int} (h : a[i]? = some row) : M.Conv (M.idx a (i : Int)) row := M.Conv_get (by omega) (by simpa using h)
def dotL (x row : List Int) : Int := foldI (fun j v s => mx s (timesI v ((x[j]?).getD 0))) 0 row (-1000000000000000)
theorem Conv_forV {σ : Type} {n : Nat} {f : Int → σ → M (σ ⊕ σ)} (val : Nat → σ) (hn : n ≤ 9223372036854775807) (h : ∀ i, i < n → M.Conv (f i (val i)) (.inl (val (i + 1)))) : M.Conv (M.forI 0 (n : Int) (fun s => s) f (val 0)) (val n) := by
  have := M.Conv_forI (l := List.range n) (f := f) (fin := fun s => s) (s := val 0) (ρ := σ) (fun i _ _ => .inl (val (i + 1))) (fun i s => s = val i) (by simpa using hn) rfl (fun i x s hx hs => by
    subst hs
    have hi := (List.getElem?_eq_some_iff.1 hx).1
    exact ⟨h i (by simpa using hi), fun s' e => by cases e; rfl⟩)
  simp only [List.length_range] at this
  refine this.of ?_
  have run : ∀ (m i : Nat), M.run (σ := σ) (ρ := σ) (fun i (_ : Nat) _ => .inl (val (i + 1))) (fun s => s) i (List.range m) (val i) = val (i + m) := by
    have g : ∀ (l : List Nat) (i : Nat), M.run (σ := σ) (ρ := σ) (fun i (_ : Nat) _ => .inl (val (i + 1))) (fun s => s) i l (val i) = val (i + l.length) := by
      intro l
      induction l with
      | nil => intro i; rfl
      | cons x xs ih => intro i; simp only [M.run, List.length_cons]; rw [ih (i + 1)]; congr 1; omega
    intro m i
    rw [g, List.length_range]
  simpa using run n 0
def ConvL {σ ρ : Type} (f : σ → M (σ ⊕ ρ)) (s : σ) (r : ρ) : Prop := ∃ N m0, ∀ n, N ≤ n → ∀ m, m0 ≤ m → M.loopN f n m s = some r
theorem ConvL.conv {σ ρ : Type} {f : σ → M (σ ⊕ ρ)} {s : σ} {r : ρ} (h : ConvL f s r) : M.Conv (M.loop f s) r := by
  obtain ⟨N, m0, h⟩ := h
  exact ⟨max N m0, fun n hn => h n (by omega) n (by omega)⟩
theorem ConvL.step {σ ρ : Type} {f : σ → M (σ ⊕ ρ)} {s s' : σ} {r : ρ} (h1 : M.Conv (f s) (.inl s')) (h : ConvL f s' r) : ConvL f s r := by
  obtain ⟨N, h1⟩ := h1
  obtain ⟨N', m0, h⟩ := h
  refine ⟨max N N', m0 + 1, fun n hn m hm => ?_⟩
  obtain ⟨m, rfl⟩ : ∃ q, m = q + 1 := ⟨m - 1, by omega⟩
  simp only [M.loopN, h1 n (by omega)]
  exact h n (by omega) m (by omega)
theorem ConvL.stop {σ ρ : Type} {f : σ → M (σ ⊕ ρ)} {s : σ} {r : ρ} (h1 : M.Conv (f s) (.inr r)) : ConvL f s r := by
  obtain ⟨N, h1⟩ := h1
  refine ⟨N, 1, fun n hn m hm => ?_⟩
  obtain ⟨m, rfl⟩ : ∃ q, m = q + 1 := ⟨m - 1, by omega⟩
  simp only [M.loopN, h1 n hn]
def entA (a : List (List Int)) (i j : Nat) : Int := (((a[i]?).getD [])[j]?).getD 0
theorem ent_val {a : List (List Int)} {n i j : Nat} (hm : Mat a n) (hi : i < a.length) (hj : j < n) : M.Conv (M.idx a (i : Int)) a[i] ∧ M.Conv (M.idx a[i] (j : Int)) (entA a i j) ∧ valB (entA a i j) = true := by
  have hr : a[i]? = some a[i] := List.getElem?_eq_getElem hi
  obtain ⟨g1, g2⟩ := hm.get hr hj
  have e : entA a i j = (a[i][j]?).getD 0 := by simp only [entA, hr, Option.getD_some]
  rw [e]
  exact ⟨get_row hr, g1, g2⟩
theorem conv_up {σ ρ : Type} {f : σ → M (σ ⊕ ρ)} {r : ρ} (st : Nat → σ) {n k0 : Nat} (hk : k0 ≤ n) (h : ∀ k, k0 ≤ k → k < n → M.Conv (f (st k)) (.inl (st (k + 1)))) (hs : M.Conv (f (st n)) (.inr r)) : M.Conv (M.loop f (st k0)) r := by
  have H : ∀ (d k : Nat), k0 ≤ k → k + d = n → ConvL f (st k) r := by
    intro d
    induction d with
    | zero => intro k _ e; obtain rfl : k = n := by omega
              exact ConvL.stop hs
    | succ d ih => intro k h1 e; exact ConvL.step (h k h1 (by omega)) (ih (k + 1) (by omega) (by omega))
  exact (H (n - k0) k0 (Nat.le_refl _) (by omega)).conv
theorem conv_up0 {σ ρ : Type} {f : σ → M (σ ⊕ ρ)} {r : ρ} {s0 : σ} (st : Nat → σ) {n k0 : Nat} (e : s0 = st k0) (hk : k0 ≤ n) (h : ∀ k, k0 ≤ k → k < n → M.Conv (f (st k)) (.inl (st (k + 1)))) (hs : M.Conv (f (st n)) (.inr r)) : M.Conv (M.loop f s0) r := by
  subst e; exact conv_up st hk h hs

def tab {α : Type} (n : Nat) (h : Nat → α) : List α := (List.range n).map h
theorem tab_len {α : Type} (n : Nat) (h : Nat → α) : (tab n h).length = n := by simp [tab]
theorem tab_get {α : Type} {n i : Nat} {h : Nat → α} (hi : i < n) : (tab n h)[i]? = some (h i) := by simp [tab, List.getElem?_range hi]
theorem tab_none {α : Type} {n i : Nat} {h : Nat → α} (hi : n ≤ i) : (tab n h)[i]? = none := List.getElem?_eq_none (by rw [tab_len]; exact hi)
theorem tab_ext {α : Type} {n : Nat} {h : Nat → α} {l : List α} (hl : l.length = n) (e : ∀ i, i < n → l[i]? = some (h i)) : l = tab n h := by
  apply List.ext_getElem?
  intro i
  by_cases hi : i < n
  · rw [e i hi, tab_get hi]
  · rw [tab_none (by omega), List.getElem?_eq_none (by omega)]
theorem tab_congr {α : Type} {n : Nat} {h g : Nat → α} (e : ∀ i, i < n → h i = g i) : tab n h = tab n g := by
  refine tab_ext (tab_len _ _) fun i hi => ?_
  rw [tab_get hi, e i hi]
theorem tab_set {α : Type} {n i : Nat} {h g : Nat → α} {v : α} (hv : v = g i) (e : ∀ p, p < n → p ≠ i → h p = g p) : (tab n h).set i v = tab n g := by
  refine tab_ext (by rw [List.length_set, tab_len]) fun p hp => ?_
  rw [List.getElem?_set]
  by_cases q : i = p
  · subst q; rw [if_pos rfl, if_pos (by rw [tab_len]; exact hp), hv]
  · rw [if_neg q, tab_get hp, e p hp (fun c => q c.symm)]
theorem tab_snoc {α : Type} (n : Nat) (h : Nat → α) : tab n h ++ [h n] = tab (n + 1) h := by simp [tab, List.range_succ]
theorem idx_tab {α : Type} {n i : Nat} {h : Nat → α} (hi : i < n) : M.Conv (M.idx (tab n h) (i : Int)) (h i) := M.Conv_idx (tab_get hi)
def matF (m n : Nat) (f : Nat → Nat → Int) : List (List Int) := tab m fun i => tab n (f i)
theorem matF_len (m n : Nat) (f : Nat → Nat → Int) : (matF m n f).length = m := tab_len _ _
theorem matF_congr {m n : Nat} {f g : Nat → Nat → Int} (e : ∀ i j, i < m → j < n → f i j = g i j) : matF m n f = matF m n g := tab_congr fun i hi => tab_congr fun j hj => e i j hi hj
structure Shp (a : List (List Int)) (w : Nat) : Prop where
  rows : 1 ≤ a.length ∧ a.length ≤ 10
  cols : 1 ≤ w ∧ w ≤ 10
  row : ∀ r ∈ a, r.length = w
theorem Mat.shp {a : List (List Int)} {w : Nat} (hm : Mat a w) : Shp a w := ⟨hm.rows, hm.cols, fun r hr => (hm.row r hr).1⟩
theorem mat_eq {a : List (List Int)} {w : Nat} (hm : Shp a w) : a = matF a.length w (entA a) := by
  refine tab_ext rfl fun i hi => ?_
  have hr : a[i]? = some a[i] := List.getElem?_eq_getElem hi
  rw [hr]
  have hl := hm.row _ (List.mem_of_getElem? hr)
  congr 1
  refine tab_ext hl fun j hj => ?_
  have : a[i][j]? = some (a[i][j]'(by omega)) := List.getElem?_eq_getElem _
  rw [this]
  simp only [entA, hr, Option.getD_some, this]
theorem entA_matF {m n i j : Nat} {f : Nat → Nat → Int} (hi : i < m) (hj : j < n) : entA (matF m n f) i j = f i j := by
  simp only [entA, matF, tab_get hi, Option.getD_some, tab_get hj]
theorem mat_of {m n : Nat} {f : Nat → Nat → Int} (h1 : 1 ≤ m ∧ m ≤ 10) (h2 : 1 ≤ n ∧ n ≤ 10) (hv : ∀ i j, i < m → j < n → valB (f i j) = true) : Mat (matF m n f) n := by
  refine ⟨by rw [matF_len]; exact h1, h2, fun r hr => ?_⟩
  simp only [matF, tab, List.mem_map, List.mem_range] at hr
  obtain ⟨i, hi, rfl⟩ := hr
  refine ⟨by simp, fun x hx => ?_⟩
  simp only [List.mem_map, List.mem_range] at hx
  obtain ⟨j, hj, rfl⟩ := hx
  exact hv i j hi hj
theorem shp_of {m n : Nat} {f : Nat → Nat → Int} (h1 : 1 ≤ m ∧ m ≤ 10) (h2 : 1 ≤ n ∧ n ≤ 10) : Shp (matF m n f) n := by
  refine ⟨by rw [matF_len]; exact h1, h2, fun r hr => ?_⟩
  simp only [matF, tab, List.mem_map, List.mem_range] at hr
  obtain ⟨i, hi, rfl⟩ := hr
  simp
theorem ent_read {a : List (List Int)} {w i j : Nat} (hm : Shp a w) (hi : i < a.length) (hj : j < w) : ∃ r, M.Conv (M.idx a (i : Int)) r ∧ r.length = w ∧ M.Conv (M.idx r (j : Int)) (entA a i j) := by
  have hr : a[i]? = some a[i] := List.getElem?_eq_getElem hi
  have hl := hm.row _ (List.mem_of_getElem? hr)
  have h2 : a[i][j]? = some (a[i][j]'(by omega)) := List.getElem?_eq_getElem _
  refine ⟨_, get_row hr, hl, (M.Conv_idx h2).of ?_⟩
  simp only [entA, hr, Option.getD_some, h2]
theorem spec_l02Bottom_ok {m n : Nat} (hm : m ≤ 1048576) (hn : n ≤ 1048576) : M.Conv (spec_l02Bottom (m : Int) (n : Int)) (matF m n fun _ _ => -1000000000000000) := by
  unfold spec_l02Bottom
  refine M.Conv_bind (Conv_forV (fun i => tab i fun _ => tab n fun _ => (-1000000000000000 : Int)) (by omega) fun i hi => ?_) (M.Conv_ret _)
  refine M.Conv_bind (Conv_forV (fun j => tab j fun _ => (-1000000000000000 : Int)) (by omega) fun j hj => ?_) ?_
  · exact M.Conv_bind (M.Conv_app (by simp [tab_len]; omega)) ((M.Conv_ret _).of (congrArg Sum.inl (tab_snoc _ _)))
  · exact M.Conv_bind (M.Conv_app (by simp [tab_len]; omega)) ((M.Conv_ret _).of (congrArg Sum.inl (tab_snoc i _)))
/-- one entry set -/
theorem matF_set {m n i j : Nat} {f g : Nat → Nat → Int} (e : ∀ p q, p < m → q < n → ¬(p = i ∧ q = j) → f p q = g p q) : (matF m n f).set i ((tab n (f i)).set j (g i j)) = matF m n g := by
  by_cases hi : i < m
  · refine tab_set (tab_set rfl fun q hq hne => e i q hi hq (by omega)) fun p hp hne => tab_congr fun q hq => e p q hp hq (by omega)
  · rw [List.set_eq_of_length_le (by rw [matF_len]; omega)]
    exact matF_congr fun p q hp hq => e p q hp hq (by omega)
/-- filled row by row: everything before (i, j) is new -/
def part (g z : Nat → Nat → Int) (i j p q : Nat) : Int := bif decide (p < i) || (decide (p = i) && decide (q < j)) then g p q else z p q
theorem part_step {m n i j : Nat} {g z : Nat → Nat → Int} : (matF m n (part g z i j)).set i ((tab n (part g z i j i)).set j (g i j)) = matF m n (part g z i (j + 1)) := by
  rw [show g i j = part g z i (j + 1) i j by simp [part]]
  refine matF_set fun p q _ _ h => ?_
  unfold part
  congr 1
  rw [Bool.eq_iff_iff]; simp; omega
theorem part_row {m n i : Nat} {g z : Nat → Nat → Int} : matF m n (part g z i n) = matF m n (part g z (i + 1) 0) := by
  refine matF_congr fun p q _ hq => ?_
  unfold part
  congr 1
  rw [Bool.eq_iff_iff]; simp; omega
theorem part_zero {m n : Nat} {g z : Nat → Nat → Int} : matF m n (part g z 0 0) = matF m n z := matF_congr fun p q _ _ => by simp [part]
theorem part_all {m n : Nat} {g z : Nat → Nat → Int} : matF m n (part g z m 0) = matF m n g := matF_congr fun p q hp _ => by simp [part, hp]
theorem matB_shp {a : List (List Int)} {w : Nat} (h : Shp a w) : matB a = a.all fun r => r.all valB := by
  have h1 := h.rows
  have h2 := h.cols
  have hw : widthN a = w := by
    unfold widthN
    cases a with
    | nil => simp at h1
    | cons r rs => exact h.row r (by simp)
  unfold matB
  rw [hw, decide_eq_true h1.1, decide_eq_true h1.2, decide_eq_true h2.1, decide_eq_true h2.2]
  simp only [Bool.true_and]
  rw [Bool.eq_iff_iff, List.all_eq_true, List.all_eq_true]
  refine ⟨fun H r hr => ?_, fun H r hr => ?_⟩
  · have := H r hr; simp only [Bool.and_eq_true] at this; exact this.2
  · rw [decide_eq_true (h.row r hr), Bool.true_and]; exact H r hr
def colL (b : List (List Int)) (i : Nat) : List Int := tab b.length fun j => entA b j i
theorem Conv_or {b v : Bool} {m : M Bool} (h : b = false → M.Conv m v) : M.Conv (M.ite b (M.ret true) m) (b || v) := by
  cases b with
  | true => exact M.Conv_ite (fun _ => M.Conv_ret _) (fun t => by simp at t)
  | false => exact M.Conv_ite (fun t => by simp at t) (fun _ => h rfl)
def Rel {α β : Type} (m : M α) (m' : M β) (Q : α → β → Prop) : Prop := ∃ r r', M.Conv m r ∧ M.Conv m' r' ∧ Q r r'
theorem Rel.of {α β : Type} {m : M α} {m' : M β} {Q : α → β → Prop} {r : α} {r' : β} (h : M.Conv m r) (h' : M.Conv m' r') (q : Q r r') : Rel m m' Q := ⟨r, r', h, h', q⟩
theorem Rel.bind {α β γ δ : Type} {m : M α} {m' : M β} {f : α → M γ} {f' : β → M δ} {P : α → β → Prop} {Q : γ → δ → Prop} (h : Rel m m' P) (g : ∀ x x', P x x' → Rel (f x) (f' x') Q) : Rel (M.bind m f) (M.bind m' f') Q := by
  obtain ⟨x, x', h1, h2, p⟩ := h
  obtain ⟨r, r', g1, g2, q⟩ := g x x' p
  exact ⟨r, r', M.Conv_bind h1 g1, M.Conv_bind h2 g2, q⟩
theorem Rel.left {α γ δ : Type} {m : M α} {f : α → M γ} {m' : M δ} {Q : γ → δ → Prop} {x : α} (h : M.Conv m x) (g : Rel (f x) m' Q) : Rel (M.bind m f) m' Q := by
  obtain ⟨r, r', g1, g2, q⟩ := g
  exact ⟨r, r', M.Conv_bind h g1, g2, q⟩
theorem Rel.right {α γ δ : Type} {m : M α} {f : α → M γ} {m' : M δ} {Q : δ → γ → Prop} {x : α} (h : M.Conv m x) (g : Rel m' (f x) Q) : Rel m' (M.bind m f) Q := by
  obtain ⟨r, r', g1, g2, q⟩ := g
  exact ⟨r, r', g1, M.Conv_bind h g2, q⟩
theorem Rel.two {α : Type} {m m' : M α} {P : α → Prop} (h : Rel m m' fun x y => x = y ∧ P x) : Two m m' P := by
  obtain ⟨r, r', h1, h2, rfl, p⟩ := h
  exact ⟨r, h1, h2, p⟩
theorem Rel.mono {α β : Type} {m : M α} {m' : M β} {P Q : α → β → Prop} (h : Rel m m' P) (g : ∀ x y, P x y → Q x y) : Rel m m' Q := by
  obtain ⟨r, r', h1, h2, p⟩ := h
  exact ⟨r, r', h1, h2, g _ _ p⟩
theorem Rel.iteL {α β : Type} {b : Bool} {x y : M α} {m' : M β} {Q : α → β → Prop} (h1 : b = true → Rel x m' Q) (h2 : b = false → Rel y m' Q) : Rel (M.ite b x y) m' Q := by
  cases b
  · obtain ⟨r, r', g1, g2, q⟩ := h2 rfl
    exact ⟨r, r', M.Conv_ite (fun t => by simp at t) (fun _ => g1), g2, q⟩
  · obtain ⟨r, r', g1, g2, q⟩ := h1 rfl
    exact ⟨r, r', M.Conv_ite (fun _ => g1) (fun t => by simp at t), g2, q⟩
theorem Rel.iteR {α β : Type} {b : Bool} {x y : M β} {m' : M α} {Q : α → β → Prop} (h1 : b = true → Rel m' x Q) (h2 : b = false → Rel m' y Q) : Rel m' (M.ite b x y) Q := by
  cases b
  · obtain ⟨r, r', g1, g2, q⟩ := h2 rfl
    exact ⟨r, r', g1, M.Conv_ite (fun t => by simp at t) (fun _ => g2), q⟩
  · obtain ⟨r, r', g1, g2, q⟩ := h1 rfl
    exact ⟨r, r', g1, M.Conv_ite (fun _ => g2) (fun t => by simp at t), q⟩
theorem Rel.ite {α β : Type} {b b' : Bool} {x y : M α} {x' y' : M β} {Q : α → β → Prop} (e : b = b') (h1 : b = true → Rel x x' Q) (h2 : b = false → Rel y y' Q) : Rel (M.ite b x y) (M.ite b' x' y') Q := by
  subst e
  exact Rel.iteL (fun t => Rel.iteR (fun _ => h1 t) (fun t' => by rw [t] at t'; cases t')) (fun t => Rel.iteR (fun t' => by rw [t] at t'; cases t') (fun _ => h2 t))
theorem Rel.ret {α β : Type} {x : α} {y : β} {Q : α → β → Prop} (q : Q x y) : Rel (M.ret x) (M.ret y) Q := ⟨x, y, M.Conv_ret _, M.Conv_ret _, q⟩
/-- one round of two loops: both go on, or both stop -/
def Round {σ σ' ρ ρ' : Type} (R : σ → σ' → Prop) (Q : ρ → ρ' → Prop) (y : σ ⊕ ρ) (y' : σ' ⊕ ρ') : Prop := (∃ t t', y = .inl t ∧ y' = .inl t' ∧ R t t') ∨ (∃ r r', y = .inr r ∧ y' = .inr r' ∧ Q r r')
theorem Round.on {σ σ' ρ ρ' : Type} {R : σ → σ' → Prop} {Q : ρ → ρ' → Prop} {t : σ} {t' : σ'} (h : R t t') : Round R Q (.inl t) (.inl t') := .inl ⟨t, t', rfl, rfl, h⟩
theorem Rel.for {σ σ' ρ ρ' : Type} {n : Nat} {f : Int → σ → M (σ ⊕ ρ)} {f' : Int → σ' → M (σ' ⊕ ρ')} {fin : σ → ρ} {fin' : σ' → ρ'} {s : σ} {s' : σ'} {Q : ρ → ρ' → Prop} (R : Nat → σ → σ' → Prop) (hn : n ≤ 9223372036854775807) (h0 : R 0 s s')
    (step : ∀ (i : Nat) t t', i < n → R i t t' → Rel (f i t) (f' i t') (Round (R (i + 1)) Q)) (stop : ∀ t t', R n t t' → Q (fin t) (fin' t')) : Rel (M.forI 0 (n : Int) fin f s) (M.forI 0 (n : Int) fin' f' s') Q := by
  have H : ∀ (d i : Nat) t t', i + d = n → R i t t' → ∃ r r', (∃ N, ∀ m, N ≤ m → M.forN (n : Int) fin f m d (i : Int) t = some r) ∧ (∃ N, ∀ m, N ≤ m → M.forN (n : Int) fin' f' m d (i : Int) t' = some r') ∧ Q r r' := by
    intro d
    induction d with
    | zero =>
      intro i t t' e hR
      obtain rfl : i = n := by omega
      exact ⟨fin t, fin' t', ⟨0, fun m _ => by simp [M.forN]⟩, ⟨0, fun m _ => by simp [M.forN]⟩, stop t t' hR⟩
    | succ d ih =>
      intro i t t' e hR
      have hlt : (i : Int) < n := by omega
      obtain ⟨y, y', ⟨N, hy⟩, ⟨N', hy'⟩, hc⟩ := step i t t' (by omega) hR
      rcases hc with ⟨u, u', rfl, rfl, hR⟩ | ⟨r, r', rfl, rfl, hq⟩
      · obtain ⟨r, r', ⟨K, hr⟩, ⟨K', hr'⟩, hq⟩ := ih (i + 1) u u' (by omega) hR
        rw [Int.natCast_add] at hr hr'
        refine ⟨r, r', ⟨max N K, fun m hm => ?_⟩, ⟨max N' K', fun m hm => ?_⟩, hq⟩
        · simp [M.forN, hlt, hy m (by omega)]; exact hr m (by omega)
        · simp [M.forN, hlt, hy' m (by omega)]; exact hr' m (by omega)
      · exact ⟨r, r', ⟨N, fun m hm => by simp [M.forN, hlt, hy m hm]⟩, ⟨N', fun m hm => by simp [M.forN, hlt, hy' m hm]⟩, hq⟩
  obtain ⟨r, r', ⟨N, h1⟩, ⟨N', h2⟩, q⟩ := H n 0 s s' (by omega) h0
  refine ⟨r, r', ⟨N, fun m hm => ?_⟩, ⟨N', fun m hm => ?_⟩, q⟩
  · have := h1 m hm; have hn' : (n : Int) ≤ 9223372036854775807 := by omega
    simp [M.forI, hn']; exact this
  · have := h2 m hm; have hn' : (n : Int) ≤ 9223372036854775807 := by omega
    simp [M.forI, hn']; exact this
/-- a loop with a round count on the left, any loop on the right -/
theorem Rel.loop {σ σ' ρ ρ' : Type} {f : σ → M (σ ⊕ ρ)} {f' : σ' → M (σ' ⊕ ρ')} {s : σ} {s' : σ'} {Q : ρ → ρ' → Prop} (R : σ → σ' → Prop) (μ : σ → Nat) (h0 : R s s')
    (step : ∀ t t', R t t' → Rel (f t) (f' t') (Round (fun u u' => R u u' ∧ μ u < μ t) Q)) : Rel (M.loop f s) (M.loop f' s') Q := by
  have H : ∀ (d : Nat) t t', μ t < d → R t t' → ∃ r r', ConvL f t r ∧ ConvL f' t' r' ∧ Q r r' := by
    intro d
    induction d with
    | zero => intro t t' h; omega
    | succ d ih =>
      intro t t' h hR
      obtain ⟨y, y', hy, hy', hc⟩ := step t t' hR
      rcases hc with ⟨u, u', rfl, rfl, hR, hlt⟩ | ⟨r, r', rfl, rfl, hq⟩
      · obtain ⟨r, r', k1, k2, q⟩ := ih u u' (by omega) hR
        exact ⟨r, r', k1.step hy, k2.step hy', q⟩
      · exact ⟨r, r', ConvL.stop hy, ConvL.stop hy', hq⟩
  obtain ⟨r, r', h1, h2, q⟩ := H (μ s + 1) s s' (by omega) h0
  exact ⟨r, r', h1.conv, h2.conv, q⟩

def nd (l : List Int) (i : Nat) : Int := (l[i]?).getD 0
theorem nd_read {l : List Int} {i : Nat} (h : i < l.length) : M.Conv (M.idx l (i : Int)) (nd l i) := by
  have : l[i]? = some (l[i]'h) := List.getElem?_eq_getElem _
  refine M.Conv_idx ?_
  unfold nd; rw [this]; rfl
def OkNodes (n : Nat) (l : List Int) : Prop := ∀ i, i < l.length → (0 ≤ nd l i ∧ nd l i ≤ (n : Int) - 1) ∧ (0 < i → nd l (i - 1) < nd l i)
theorem OkNodes.len {n : Nat} {l : List Int} (h : OkNodes n l) : l.length ≤ n := by
  have key : ∀ i, i < l.length → (i : Int) ≤ nd l i := by
    intro i
    induction i with
    | zero => intro hi; have := (h 0 hi).1; omega
    | succ i ih => intro hi; have := (h (i + 1) hi).2 (by omega); have := ih (by omega); simp only [Nat.add_sub_cancel] at *; omega
  by_cases e : l.length = 0
  · omega
  · have := key (l.length - 1) (by omega)
    have := (h (l.length - 1) (by omega)).1
    omega
structure ByC (code : List Int) : Prop where
  len : code.length ≤ 4096
  byte : ∀ x ∈ code, 0 ≤ x ∧ x ≤ 255
/-- what a drawn matrix is at least: not large, of numbers -/
structure MatS (a : List (List Int)) : Prop where
  rows : a.length ≤ 11
  row : ∀ r ∈ a, r.length ≤ 10 ∧ ∀ x ∈ r, inI64 x
theorem MatS.of {m n : Nat} {f : Nat → Nat → Int} (hm : m ≤ 10) (hn : n ≤ 10) (hf : ∀ i j, inI64 (f i j)) : MatS (matF m n f) := by
  refine ⟨by rw [matF_len]; omega, fun r hr => ?_⟩
  simp only [matF, tab, List.mem_map, List.mem_range] at hr
  obtain ⟨i, hi, rfl⟩ := hr
  refine ⟨by simp; omega, fun x hx => ?_⟩
  simp only [List.mem_map, List.mem_range] at hx
  obtain ⟨j, hj, rfl⟩ := hx
  exact hf i j
structure VecS (x : List Int) : Prop where
  len : x.length ≤ 20
  mem : ∀ v ∈ x, inI64 v
theorem VecS.set {x : List Int} {v : Int} (i : Nat) (h : VecS x) (hv : inI64 v) : VecS (x.set i v) := ⟨by rw [List.length_set]; exact h.len, fun y hy => by
  rcases List.mem_or_eq_of_mem_set hy with hy | hy
  · exact h.mem y hy
  · subst hy; exact hv⟩
theorem foldI_at {σ α : Type} {g : Nat → α → σ → σ} {a : List α} (J : Nat → σ → Prop) : ∀ (l : List α) (i : Nat) (s : σ), (∀ k, l[k]? = a[i + k]?) → J i s → (∀ k x s, a[k]? = some x → J k s → J (k + 1) (g k x s)) → J (i + l.length) (foldI g i l s)
  | [], i, s, _, h, _ => h
  | x :: xs, i, s, hl, h, step => by
    have h0 : a[i]? = some x := by have := hl 0; simpa using this.symm
    have := foldI_at J xs (i + 1) (g i x s) (fun k => by have := hl (k + 1); simp only [List.getElem?_cons_succ] at this; rw [this]; congr 1; omega) (step i x s h0 h) step
    rw [show i + (x :: xs).length = i + 1 + xs.length by simp; omega]
    exact this
theorem ent_at {a : List (List Int)} {i j : Nat} {row : List Int} (h : a[i]? = some row) : entA a i j = (row[j]?).getD 0 := by simp only [entA, h, Option.getD_some]
theorem val_ent {a : List (List Int)} {w i j : Nat} (hm : Mat a w) (hi : i < a.length) (hj : j < w) : entA a i j = -1000000000000000 ∨ (-1000000 ≤ entA a i j ∧ entA a i j ≤ 1000000) := val_cases (ent_val hm hi hj).2.2
theorem ByC.of {code : List Int} (h : fitL inU8 code) (hb : decide (4096 < (code.length : Int)) = false) : ByC code := ⟨by have := of_decide_eq_false hb; omega, fun x hx => h.2 x hx⟩
def co (c : List Int) (i : Nat) : Int := (c[i]?).getD (-1000000000000000)
theorem co_get {c : List Int} {i : Nat} (h : i < c.length) : c[i]? = some (co c i) := by
  unfold co; rw [List.getElem?_eq_getElem h]; rfl
theorem co_out {c : List Int} {i : Nat} (h : c.length ≤ i) : co c i = -1000000000000000 := by
  unfold co; rw [List.getElem?_eq_none h]; rfl
theorem co_val {c : List Int} (hv : c.all valB = true) (i : Nat) : co c i = -1000000000000000 ∨ -1000000 ≤ co c i ∧ co c i ≤ 1000000 := by
  by_cases hi : i < c.length
  · rw [List.all_eq_true] at hv
    exact val_cases (hv _ (List.mem_of_getElem? (co_get hi)))
  · exact .inl (co_out (by omega))
theorem times_co {a p : Int} (h : a ≠ -1000000000000000) (ha : -1000000 ≤ a ∧ a ≤ 1000000) (hp : -1000000 ≤ p ∧ p ≤ 1000000) : timesI a p = a + p := by
  simp only [timesI]
  rw [show (a == (-1000000000000000)) = false by simpa using h, show (p == (-1000000000000000)) = false by simp; omega]
  exact w64_eq _ (by omega)
theorem times_bot (p : Int) : timesI (-1000000000000000) p = -1000000000000000 := by simp [timesI]
structure PartP (c d : List Int) (n i k : Nat) (s : List Int) : Prop where
  len : s.length = n
  up : ∀ p q : Nat, (p < i ∨ p = i ∧ q < k) → co c p ≠ -1000000000000000 → co d q ≠ -1000000000000000 → co c p + co d q ≤ co s (p + q)
  on : ∀ m : Nat, co s m = -1000000000000000 ∨ ∃ p q : Nat, p + q = m ∧ co c p ≠ -1000000000000000 ∧ co d q ≠ -1000000000000000 ∧ co s m = co c p + co d q
theorem co_set {s : List Int} {i m : Nat} {v : Int} (hi : i < s.length) : co (s.set i v) m = if m = i then v else co s m := by
  unfold co
  by_cases e : m = i
  · subst e; rw [if_pos rfl, List.getElem?_set_self hi]; rfl
  · rw [if_neg e, List.getElem?_set_ne (by omega)]
theorem PartP.step {c d s : List Int} {n i k : Nat} (hc : c.all valB = true) (hd : d.all valB = true) (h : PartP c d n i k s) (hn : i + k < n) : PartP c d n i (k + 1) (s.set (i + k) (mx (co s (i + k)) (timesI (co c i) (co d k)))) := by
  have hlt : i + k < s.length := by rw [h.len]; exact hn
  have vc := co_val hc i
  have vd := co_val hd k
  have vs : co s (i + k) = -1000000000000000 ∨ -2000000 ≤ co s (i + k) := by
    rcases h.on (i + k) with e | ⟨p, q, _, h1, h2, e⟩
    · exact .inl e
    · have := co_val hc p
      have := co_val hd q
      omega
  -- the new coefficient
  have hz : (mx (co s (i + k)) (timesI (co c i) (co d k)) = co s (i + k) ∧ (co c i = -1000000000000000 ∨ co d k = -1000000000000000 ∨ co c i + co d k ≤ co s (i + k))) ∨ (mx (co s (i + k)) (timesI (co c i) (co d k)) = co c i + co d k ∧ co c i ≠ -1000000000000000 ∧ co d k ≠ -1000000000000000 ∧ co s (i + k) ≤ co c i + co d k) := by
    rw [mx_eq]
    by_cases e1 : co c i = -1000000000000000
    · rw [e1, times_bot]; left; omega
    · by_cases e2 : co d k = -1000000000000000
      · rw [e2, show timesI (co c i) (-1000000000000000) = -1000000000000000 by simp [timesI]]; left; omega
      · rw [times_co e1 (by omega) (by omega)]
        by_cases e3 : co c i + co d k ≤ co s (i + k)
        · left; omega
        · right; omega
  refine ⟨by rw [List.length_set]; exact h.len, fun p q hpq h1 h2 => ?_, fun m => ?_⟩
  · rw [co_set hlt]
    by_cases e : p + q = i + k
    · rw [if_pos e]
      by_cases e2 : p = i ∧ q = k
      · obtain ⟨rfl, rfl⟩ := e2; omega
      · have := h.up p q (by omega) h1 h2
        rw [e] at this
        omega
    · rw [if_neg e]
      exact h.up p q (by omega) h1 h2
  · rw [co_set hlt]
    by_cases e : m = i + k
    · rw [if_pos e]
      rcases hz with ⟨hz, _⟩ | ⟨hz, h1, h2, _⟩
      · rw [hz]
        have := h.on m
        rw [e] at this ⊢
        exact this
      · exact .inr ⟨i, k, e.symm, h1, h2, hz⟩
    · rw [if_neg e]; exact h.on m
theorem shp_width {a : List (List Int)} {w : Nat} (h : Shp a w) : widthN a = w := by
  have h1 := h.rows
  unfold widthN
  cases a with
  | nil => simp at h1
  | cons r rs => exact h.row r (by simp)
theorem mat_matB {a : List (List Int)} {w : Nat} (h : Mat a w) : matB a = true := by
  rw [matB_shp h.shp, List.all_eq_true]
  intro r hr
  rw [List.all_eq_true]
  exact (h.row r hr).2
structure DotP (u v : Nat → Int) (n : Nat) (s : Int) : Prop where
  up : ∀ j, j < n → u j ≠ -1000000000000000 → v j ≠ -1000000000000000 → u j + v j ≤ s
  on : s = -1000000000000000 ∨ ∃ j, j < n ∧ u j ≠ -1000000000000000 ∧ v j ≠ -1000000000000000 ∧ s = u j + v j
def Bd (B : Int) (x : Int) : Prop := x = -1000000000000000 ∨ (-B ≤ x ∧ x ≤ B)
theorem DotP.comm {u v : Nat → Int} {n : Nat} {s : Int} (h : DotP u v n s) : DotP v u n s := by
  refine ⟨fun j hj h1 h2 => by have := h.up j hj h2 h1; omega, ?_⟩
  rcases h.on with e | ⟨j, hj, h1, h2, e⟩
  · exact .inl e
  · exact .inr ⟨j, hj, h2, h1, by omega⟩
theorem nd_of {l : List Int} {i : Nat} {x : Int} (h : l[i]? = some x) : nd l i = x := by unfold nd; rw [h]; rfl
theorem dotL_ok {x row : List Int} (hl : x.length = row.length) (hr : ∀ j, j < row.length → Bd 2000000 (nd row j)) (hx : ∀ j, j < row.length → Bd 2000000 (nd x j)) : DotP (nd row) (nd x) row.length (dotL x row) := by
  have key := foldI_at (g := fun j v s => mx s (timesI v ((x[j]?).getD 0))) (a := row) (fun k (s : Int) => k ≤ row.length ∧ -1000000000000000 ≤ s ∧ (∀ j, j < k → nd row j ≠ -1000000000000000 → nd x j ≠ -1000000000000000 → nd row j + nd x j ≤ s) ∧ (s = -1000000000000000 ∨ ∃ j, j < k ∧ nd row j ≠ -1000000000000000 ∧ nd x j ≠ -1000000000000000 ∧ s = nd row j + nd x j)) row 0 (-1000000000000000) (fun k => by simp) ⟨by omega, by omega, fun j hj => by omega, .inl rfl⟩ (fun k v s hv hI => by
    obtain ⟨_, i1, i2, i3⟩ := hI
    have hk := (List.getElem?_eq_some_iff.1 hv).1
    have ev := nd_of hv
    have b1 := hr k hk
    have b2 := hx k hk
    unfold Bd at b1 b2
    have et : timesI v ((x[k]?).getD 0) = bif (v == (-1000000000000000)) || (nd x k == (-1000000000000000)) then -1000000000000000 else v + nd x k := by
      change timesI v (nd x k) = _
      unfold timesI
      cases hz : ((v == (-1000000000000000)) || (nd x k == (-1000000000000000))) with
      | true => rfl
      | false =>
        simp only [Bool.or_eq_false_iff, beq_eq_false_iff_ne, ne_eq] at hz
        simp only [cond_false]
        exact w64_eq _ (by omega)
    refine ⟨by omega, by rw [mx_eq]; omega, fun j hj h1 h2 => ?_, ?_⟩
    · rw [mx_eq]
      by_cases e : j = k
      · subst e
        rw [et, show (v == (-1000000000000000)) = false by rw [← ev]; simpa using h1, show (nd x j == (-1000000000000000)) = false by simpa using h2]
        simp only [Bool.or_self, cond_false]; omega
      · have := i2 j (by omega) h1 h2
        omega
    · rw [mx_eq, et]
      have old : s = -1000000000000000 ∨ ∃ j, j < k + 1 ∧ nd row j ≠ -1000000000000000 ∧ nd x j ≠ -1000000000000000 ∧ s = nd row j + nd x j := i3.imp id fun ⟨j, hj, h⟩ => ⟨j, by omega, h⟩
      cases hz : ((v == (-1000000000000000)) || (nd x k == (-1000000000000000))) with
      | true =>
        simp only [cond_true]
        rw [show max s (-1000000000000000) = s by omega]
        exact old
      | false =>
        simp only [Bool.or_eq_false_iff, beq_eq_false_iff_ne, ne_eq] at hz
        simp only [cond_false]
        by_cases e : s ≤ v + nd x k
        · rw [show max s (v + nd x k) = v + nd x k by omega]
          exact .inr ⟨k, by omega, by rw [ev]; exact hz.1, hz.2, by rw [ev]⟩
        · rw [show max s (v + nd x k) = s by omega]
          exact old)
  obtain ⟨_, _, k2, k3⟩ := key
  rw [Nat.zero_add] at k2 k3
  exact ⟨k2, k3⟩
def rowN (a : List (List Int)) (i : Nat) : List Int := (a[i]?).getD []
theorem rowN_get {a : List (List Int)} {i : Nat} (h : i < a.length) : a[i]? = some (rowN a i) := by unfold rowN; rw [List.getElem?_eq_getElem h]; rfl
theorem nd_row {a : List (List Int)} {i j : Nat} (h : i < a.length) : nd (rowN a i) j = entA a i j := (ent_at (rowN_get h)).symm
theorem nd_col {b : List (List Int)} {j k : Nat} (h : j < b.length) : nd (colL b k) j = entA b j k := nd_of (tab_get h)
def mulM (a b : List (List Int)) : List (List Int) := matF a.length (widthN b) fun i k => dotL (colL b k) (rowN a i)
theorem mulM_shp {a b : List (List Int)} {n w : Nat} (ha : Shp a n) (hb : Shp b w) : Shp (mulM a b) w := by
  unfold mulM
  rw [shp_width hb]
  exact shp_of ha.rows hb.cols
theorem mat_bd {a : List (List Int)} {w i j : Nat} (h : Mat a w) (hi : i < a.length) (hj : j < w) : Bd 1000000 (entA a i j) := val_ent h hi hj
theorem DotP.congr {u v u' v' : Nat → Int} {n : Nat} {s : Int} (h : DotP u v n s) (hu : ∀ j, j < n → u j = u' j) (hv : ∀ j, j < n → v j = v' j) : DotP u' v' n s := by
  refine ⟨fun j hj h1 h2 => ?_, ?_⟩
  · rw [← hu j hj] at h1 ⊢
    rw [← hv j hj] at h2 ⊢
    exact h.up j hj h1 h2
  · rcases h.on with e | ⟨j, hj, h1, h2, e⟩
    · exact .inl e
    · rw [hu j hj] at h1 e
      rw [hv j hj] at h2 e
      exact .inr ⟨j, hj, h1, h2, e⟩
theorem bd_up {x : Int} (h : Bd 1000000 x) : Bd 2000000 x := by unfold Bd at *; omega
theorem mulM_eq (a b : List (List Int)) : mulM a b = matF a.length (widthN b) fun i k => dotL (colL b k) (rowN a i) := rfl
def pdot (a b : List (List Int)) (i j : Nat) : Nat → Int
  | 0 => -1000000000000000
  | k + 1 => mx (pdot a b i j k) (timesI (entA a i k) (entA b k j))
theorem pdot_dot {a b : List (List Int)} {n w i j : Nat} (ha : Shp a n) (hn : b.length = n) (hi : i < a.length) : dotL (colL b j) (rowN a i) = pdot a b i j n := by
  have hrl := ha.row _ (List.mem_of_getElem? (rowN_get hi))
  have := foldI_at (g := fun j' v s => mx s (timesI v (((colL b j)[j']?).getD 0))) (a := rowN a i) (fun k (s : Int) => s = pdot a b i j k) (rowN a i) 0 (-1000000000000000) (fun k => by simp) rfl (fun k v s hv hs => by
    have hk := (List.getElem?_eq_some_iff.1 hv).1
    subst hs
    have e1 : entA a i k = v := by rw [ent_at (rowN_get hi), hv]; rfl
    have e2 : ((colL b j)[k]?).getD 0 = entA b k j := by rw [show (colL b j)[k]? = some (entA b k j) from tab_get (by omega)]; rfl
    simp only [pdot, e1, e2])
  rw [Nat.zero_add, hrl] at this
  exact this
theorem spec_l02Multiply_ok {a b : List (List Int)} {n w : Nat} (ha : Shp a n) (hb : Shp b w) (hn : b.length = n) : M.Conv (spec_l02Multiply a b) (mulM a b) := by
  have har := ha.rows
  have hbr := hb.rows
  have hbc := hb.cols
  have e : mulM a b = matF a.length w fun i j => pdot a b i j n := by
    rw [mulM_eq, shp_width hb]
    exact matF_congr fun i j hi _ => pdot_dot (w := w) ha hn hi
  rw [e]
  unfold spec_l02Multiply
  obtain ⟨r0, h0, hl0, _⟩ := ent_read hb (i := 0) (j := 0) (by omega) (by omega)
  refine M.Conv_bind h0 ?_
  rw [hl0]
  refine M.Conv_bind (spec_l02Bottom_ok (by omega) (by omega)) ?_
  let g : Nat → Nat → Int := fun i j => pdot a b i j n
  let z : Nat → Nat → Int := fun _ _ => -1000000000000000
  rw [show (matF a.length w fun _ _ => (-1000000000000000 : Int)) = matF a.length w (part g z 0 0) from part_zero.symm]
  refine M.Conv_bind (x := matF a.length w g) ((Conv_forV (fun i => matF a.length w (part g z i 0)) (by omega) fun i hi => ?_).of part_all) (M.Conv_ret _)
  refine M.Conv_bind (x := (matF a.length w (part g z i w), (w : Int))) ?_ ((M.Conv_ret _).of (congrArg Sum.inl part_row))
  refine conv_up0 (fun j => (matF a.length w (part g z i j), (j : Int))) (n := w) (k0 := 0) rfl (by omega) (fun j _ hj => ?_) ?_
  · refine M.Conv_bind h0 ?_
    rw [hl0]
    refine M.Conv_ite (fun _ => ?_) (fun t => by have := of_decide_eq_false t; simp only at this; omega)
    let F : Nat → Nat → Nat → Int := fun k p q => if p = i ∧ q = j then pdot a b i j k else part g z i j p q
    have hF : ∀ k, F k i j = pdot a b i j k := fun k => if_pos ⟨rfl, rfl⟩
    have e0 : matF a.length w (part g z i j) = matF a.length w (F 0) := matF_congr fun p q _ _ => by
      by_cases h : p = i ∧ q = j
      · obtain ⟨rfl, rfl⟩ := h
        simp only [F, and_self, if_true, pdot]
        simp [part, z]
      · simp only [F, if_neg h]
    have e1 : matF a.length w (F n) = matF a.length w (part g z i (j + 1)) := matF_congr fun p q _ _ => by
      by_cases h : p = i ∧ q = j
      · obtain ⟨rfl, rfl⟩ := h
        simp only [F, and_self, if_true]
        simp [part, g]
      · simp only [F, if_neg h, part]
        congr 1
        rw [Bool.eq_iff_iff]; simp; omega
    refine M.Conv_bind (x := matF a.length w (F n)) ?_ ((M.Conv_ret _).of ?_)
    · simp only
      rw [e0, hn]
      refine Conv_forV (fun k => matF a.length w (F k)) (by omega) fun k hk => ?_
      obtain ⟨ra, a1, _, a2⟩ := ent_read ha (i := i) (j := k) hi (by omega)
      obtain ⟨rb, b1, _, b2⟩ := ent_read hb (i := k) (j := j) (by omega) hj
      have g1 := idx_tab (h := F k i) hj
      rw [hF] at g1
      refine M.Conv_bind (idx_tab hi) (M.Conv_bind (idx_tab hi) (M.Conv_bind g1 (M.Conv_bind a1 (M.Conv_bind a2 (M.Conv_bind b1 (M.Conv_bind b2 (M.Conv_bind (spec_l01Times_ok _ _) (M.Conv_bind g1 (M.Conv_bind (M.Conv_upd (by rw [tab_len]; exact hj)) ((M.Conv_ret _).of (congrArg Sum.inl ?_)))))))))))
      rw [Int.toNat_natCast]
      have := matF_set (m := a.length) (n := w) (i := i) (j := j) (f := F k) (g := F (k + 1)) (fun p q _ _ h => by simp only [F, if_neg h])
      rw [hF (k + 1)] at this
      exact this
    · refine congrArg Sum.inl (Prod.ext e1 ?_)
      simp only
      rw [w64_eq _ (by omega)]; omega
  · refine M.Conv_bind h0 ?_
    rw [hl0]
    exact M.Conv_ite (fun t => by have := of_decide_eq_true t; simp only at this; omega) (fun _ => M.Conv_ret _)
def unitM (n : Nat) : List (List Int) := matF n n fun i j => if i = j then 0 else -1000000000000000
theorem unit_mat {n : Nat} (h : 1 ≤ n ∧ n ≤ 10) : Mat (unitM n) n := mat_of h h fun i j _ _ => by
  by_cases e : i = j
  · rw [if_pos e]; rfl
  · rw [if_neg e]; rfl
theorem spec_l02Unit_ok {n : Nat} (h : n ≤ 10) : M.Conv (spec_l02Unit (n : Int)) (unitM n) := by
  unfold spec_l02Unit
  refine M.Conv_bind (spec_l02Bottom_ok (by omega) (by omega)) ?_
  let F : Nat → Nat → Nat → Int := fun k i j => if i = j ∧ i < k then 0 else -1000000000000000
  rw [show (matF n n fun _ _ => (-1000000000000000 : Int)) = matF n n (F 0) from matF_congr fun p q _ _ => by simp [F]]
  refine M.Conv_bind (x := unitM n) ((Conv_forV (fun k => matF n n (F k)) (by omega) fun k hk => ?_).of (matF_congr fun p q hp _ => by simp [F, hp])) (M.Conv_ret _)
  refine M.Conv_bind (idx_tab hk) (M.Conv_bind (idx_tab hk) (M.Conv_bind (M.Conv_upd (by rw [tab_len]; exact hk)) ((M.Conv_ret _).of (congrArg Sum.inl ?_))))
  rw [Int.toNat_natCast]
  have := matF_set (m := n) (n := n) (i := k) (j := k) (f := F k) (g := F (k + 1)) (fun p q _ _ h => by
    simp only [F]
    by_cases e : p = q
    · subst e
      by_cases e2 : p < k
      · rw [if_pos ⟨rfl, e2⟩, if_pos ⟨rfl, by omega⟩]
      · rw [if_neg (by omega), if_neg (by omega)]
    · rw [if_neg (by omega), if_neg (by omega)])
  rw [show F (k + 1) k k = 0 by simp [F]] at this
  exact this
def pw (a f : List (List Int)) : Nat → List (List Int)
  | 0 => f
  | k + 1 => mulM a (pw a f k)
structure Ser (a f : List (List Int)) (w : Nat) : Prop where
  mat : Mat a a.length
  fst : Mat f w
  len : f.length = a.length
theorem Ser.shp {a f : List (List Int)} {w : Nat} (h : Ser a f w) : ∀ k, Shp (pw a f k) w ∧ (pw a f k).length = a.length
  | 0 => ⟨h.fst.shp, h.len⟩
  | k + 1 => ⟨mulM_shp h.mat.shp (h.shp k).1, matF_len _ _ _⟩
def okTo (a f : List (List Int)) (k : Nat) : Prop := ∀ i, i ≤ k → matB (pw a f i) = true
theorem Ser.zero {a f : List (List Int)} {w : Nat} (h : Ser a f w) : okTo a f 0 := fun i hi => by
  obtain rfl : i = 0 := by omega
  exact mat_matB h.fst
theorem okTo.mono {a f : List (List Int)} {k m : Nat} (h : okTo a f k) (hm : m ≤ k) : okTo a f m := fun i hi => h i (by omega)
theorem bd_val {x : Int} (hx : Bd 1000000 x) : valB x = true := by
  unfold Bd at hx
  simp only [valB, finB, Bool.or_eq_true, beq_iff_eq, Bool.and_eq_true, decide_eq_true_eq]
  omega
/-- what lies in a product of matrices of values -/
theorem mul_dot {A B : List (List Int)} {n w : Nat} (hA : Shp A n) (hB : Shp B w) (hn : B.length = n) (bA : ∀ i j, i < A.length → j < n → Bd 2000000 (entA A i j)) (bB : ∀ j k, j < n → k < w → Bd 2000000 (entA B j k)) {i k : Nat} (hi : i < A.length) (hk : k < w) :
    DotP (entA A i) (fun j => entA B j k) n (entA (mulM A B) i k) := by
  have hrl := hA.row _ (List.mem_of_getElem? (rowN_get hi))
  have hcl : (colL B k).length = B.length := tab_len _ _
  have he : entA (mulM A B) i k = dotL (colL B k) (rowN A i) := by
    rw [mulM_eq]
    exact entA_matF hi (by rw [shp_width hB]; exact hk)
  have := dotL_ok (x := colL B k) (row := rowN A i) (by omega) (fun j hj => by rw [nd_row hi]; exact bA i j hi (by omega)) (fun j hj => by rw [nd_col (by omega)]; exact bB j k (by omega) hk)
  rw [hrl, ← he] at this
  exact this.congr (fun j _ => nd_row hi) (fun j hj => nd_col (by omega))
theorem unit_ent {n i j : Nat} (hi : i < n) (hj : j < n) : entA (unitM n) i j = if i = j then 0 else -1000000000000000 := entA_matF hi hj
structure Gr (g : TGraph) (n : Nat) : Prop where
  ev : g.Events = (n : Int)
  lo : 1 ≤ n
  hi : n ≤ 10
  len : g.Places.length ≤ 30
  pl : ∀ p ∈ g.Places, (0 ≤ p.From ∧ p.From < n) ∧ (0 ≤ p.To ∧ p.To < n) ∧ 0 ≤ p.Tokens ∧ p.Tokens ≤ 5
theorem gr_of {g : TGraph} (h : graphB g = true) : ∃ n, Gr g n := by
  simp only [graphB, inB, placeB, Bool.and_eq_true, decide_eq_true_eq, List.all_eq_true] at h
  obtain ⟨⟨⟨h1, h2⟩, h3⟩, h4⟩ := h
  refine ⟨g.Events.toNat, by omega, by omega, by omega, h3, fun p hp => ?_⟩
  obtain ⟨⟨⟨⟨a1, a2⟩, b1, b2⟩, _⟩, d1, d2⟩ := h4 p hp
  rw [w64_eq _ (by omega)] at a2 b2
  omega
/-- a way from s of at most k places -/
inductive Wk (ps : List TPlace) (s : Int) : Nat → Int → Int → Prop
  | nil (k : Nat) : Wk ps s k s 0
  | step (k : Nat) (p : TPlace) (w : Int) : p ∈ ps → Wk ps s k p.From w → Wk ps s (k + 1) p.To (w + p.Tokens)
theorem Wk.mono {ps : List TPlace} {s : Int} {k : Nat} {v w : Int} (h : Wk ps s k v w) : ∀ {m : Nat}, k ≤ m → Wk ps s m v w := by
  induction h with
  | nil k => exact fun _ => .nil _
  | step k p w hp _ ih =>
    intro m hm
    obtain ⟨m', rfl⟩ : ∃ m', m = m' + 1 := ⟨m - 1, by omega⟩
    exact .step m' p w hp (ih (by omega))
def muL : List Int → Nat
  | [] => 0
  | x :: xs => (if x < 0 then 1000 else x.toNat) + muL xs
def cntL : List Int → Nat
  | [] => 0
  | x :: xs => (if x < 0 then 0 else 1) + cntL xs
theorem cnt_le : ∀ d : List Int, cntL d ≤ d.length
  | [] => Nat.le_refl _
  | x :: xs => by
    have := cnt_le xs
    simp only [cntL, List.length_cons]
    split <;> omega
theorem nd_cons (x : Int) (xs : List Int) (i : Nat) : nd (x :: xs) (i + 1) = nd xs i := by simp [nd]
theorem mu_set : ∀ {d : List Int} {i : Nat} {x : Int}, i < d.length → 0 ≤ x → x ≤ 900 → (nd d i < 0 ∨ x < nd d i) → muL (d.set i x) < muL d ∧ cntL (d.set i x) = cntL d + (if nd d i < 0 then 1 else 0)
  | y :: ys, 0, x, _, h0, h1, h => by
    have e : nd (y :: ys) 0 = y := by simp [nd]
    rw [e] at h ⊢
    simp only [List.set_cons_zero, muL, cntL]
    rw [if_neg (show ¬ x < 0 by omega), if_neg (show ¬ x < 0 by omega)]
    by_cases hy : y < 0
    · simp only [if_pos hy]; omega
    · simp only [if_neg hy]; omega
  | y :: ys, i + 1, x, hi, h0, h1, h => by
    rw [nd_cons] at h ⊢
    have := mu_set (d := ys) (i := i) (by simpa using hi) h0 h1 h
    simp only [List.set_cons_succ, muL, cntL]
    omega
theorem nd_set {d : List Int} {i v : Nat} {x : Int} (hi : i < d.length) : nd (d.set i x) v = if v = i then x else nd d v := by
  unfold nd
  by_cases e : v = i
  · subst e; rw [if_pos rfl, List.getElem?_set_self hi]; rfl
  · rw [if_neg e, List.getElem?_set_ne (by omega)]
structure DInv (ps : List TPlace) (s : Int) (n : Nat) (d : List Int) : Prop where
  len : d.length = n
  src : nd d s.toNat = 0
  way : ∀ v : Int, 0 ≤ v → v < n → nd d v.toNat = -1 ∨ (0 ≤ nd d v.toNat ∧ ∃ k, Wk ps s k v (nd d v.toNat))
  bd : ∀ v : Nat, v < n → nd d v ≤ 5 * ((cntL d : Int) - 1)
  one : 1 ≤ cntL d
def Relax (ps : List TPlace) (d : List Int) : Prop := ∀ p ∈ ps, 0 ≤ nd d p.From.toNat → 0 ≤ nd d p.To.toNat ∧ nd d p.To.toNat ≤ nd d p.From.toNat + p.Tokens
theorem DInv.upd {g : TGraph} {s : Int} {n : Nat} {d : List Int} (hg : Gr g n) (hs : 0 ≤ s ∧ s < n) (h : DInv g.Places s n d) {p : TPlace} (hp : p ∈ g.Places) (hf : 0 ≤ nd d p.From.toNat) (ht : nd d p.To.toNat < 0 ∨ nd d p.From.toNat + p.Tokens < nd d p.To.toNat) :
    DInv g.Places s n (d.set p.To.toNat (nd d p.From.toNat + p.Tokens)) ∧ muL (d.set p.To.toNat (nd d p.From.toNat + p.Tokens)) < muL d := by
  obtain ⟨f1, t1, k0, k5⟩ := hg.pl p hp
  have hlt : p.To.toNat < d.length := by rw [h.len]; omega
  have hb := h.bd p.From.toNat (by omega)
  have hc := cnt_le d
  have hn := hg.hi
  have hl := h.len
  obtain ⟨m1, m2⟩ := mu_set (x := nd d p.From.toNat + p.Tokens) hlt (by omega) (by omega) ht
  refine ⟨⟨by rw [List.length_set]; exact h.len, ?_, fun v v0 v1 => ?_, fun v hv => ?_, by rw [m2]; have := h.one; omega⟩, m1⟩
  · rw [nd_set hlt]
    by_cases e : s.toNat = p.To.toNat
    · have := h.src
      rw [e] at this
      omega
    · rw [if_neg e]; exact h.src
  · rw [nd_set hlt]
    by_cases e : v.toNat = p.To.toNat
    · rw [if_pos e]
      right
      refine ⟨by omega, ?_⟩
      rcases h.way p.From f1.1 f1.2 with h1 | ⟨_, k, h1⟩
      · omega
      · obtain rfl : v = p.To := by omega
        exact ⟨k + 1, .step k p _ hp h1⟩
    · rw [if_neg e]; exact h.way v v0 v1
  · rw [nd_set hlt, m2]
    have := h.bd v hv
    by_cases e : v = p.To.toNat
    · rw [if_pos e]
      by_cases e2 : nd d p.To.toNat < 0
      · rw [if_pos e2]; omega
      · rw [if_neg e2]
        have := h.bd p.To.toNat (by omega)
        omega
    · rw [if_neg e]
      split <;> omega
theorem Relax.le {ps : List TPlace} {s : Int} {d : List Int} (hr : Relax ps d) (h0 : nd d s.toNat = 0) {k : Nat} {v w : Int} (h : Wk ps s k v w) : 0 ≤ nd d v.toNat ∧ nd d v.toNat ≤ w := by
  induction h with
  | nil k => omega
  | step k p w hp _ ih =>
    have := hr p hp ih.1
    omega
theorem nd_int {d : List Int} {v : Int} (h0 : 0 ≤ v) (h1 : v.toNat < d.length) : M.Conv (M.idx d v) (nd d v.toNat) := by
  have := nd_read h1
  rwa [show ((v.toNat : Nat) : Int) = v by omega] at this
theorem upd_int {d : List Int} {v x : Int} (h0 : 0 ≤ v) (h1 : v.toNat < d.length) : M.Conv (M.upd d v x) (d.set v.toNat x) := by
  have := M.Conv_upd (l := d) (i := v.toNat) (x := x) h1
  rwa [show ((v.toNat : Nat) : Int) = v by omega] at this
theorem cnt_rep : ∀ n : Nat, cntL (List.replicate n (-1)) = 0
  | 0 => rfl
  | n + 1 => by
    rw [List.replicate_succ]
    simp only [cntL]
    rw [if_pos (by omega), cnt_rep n]
theorem distances_ok {g : TGraph} {n : Nat} (hg : Gr g n) {s : Int} (hs : 0 ≤ s ∧ s < n) : ∃ D, M.Conv (impl_tokenDistances g s) D ∧ DInv g.Places s n D ∧ Relax g.Places D := by
  have hn := hg.hi
  have hn1 := hg.lo
  have hpl := hg.len
  suffices key : M.TC (impl_tokenDistances g s) (fun D => DInv g.Places s n D ∧ Relax g.Places D) from key
  unfold impl_tokenDistances
  rw [hg.ev]
  refine M.TC_bindC (M.Conv_make (by omega) (by omega)) ?_
  rw [Int.toNat_natCast, List.length_replicate]
  refine M.TC_bindC (x := List.replicate n (-1)) ((Conv_fillN (fun _ => (-1)) 0 (by omega) fun i t hi ht => ?_).of (by simp [List.map_const'])) ?_
  · exact M.Conv_bind (M.Conv_get (x := t[i]) (by omega) (by simp [show i < t.length by omega])) (M.Conv_bind (M.Conv_upd (by omega)) (M.Conv_ret _))
  have hsl : s.toNat < (List.replicate n (-1 : Int)).length := by simp; omega
  have hrep : ∀ v, v < n → nd (List.replicate n (-1 : Int)) v = -1 := fun v hv => by unfold nd; simp [hv]
  refine M.TC_bindC (nd_int hs.1 hsl) (M.TC_bindC (upd_int hs.1 hsl) ?_)
  have h0 : DInv g.Places s n ((List.replicate n (-1)).set s.toNat 0) := by
    obtain ⟨_, m2⟩ := mu_set (x := 0) hsl (by omega) (by omega) (.inl (by rw [hrep _ (by omega)]; omega))
    rw [hrep _ (by omega), if_pos (by omega), cnt_rep] at m2
    refine ⟨by simp, by rw [nd_set hsl, if_pos rfl], fun v v0 v1 => ?_, fun v hv => ?_, by omega⟩
    · rw [nd_set hsl]
      by_cases e : v.toNat = s.toNat
      · rw [if_pos e]
        obtain rfl : v = s := by omega
        exact .inr ⟨by omega, 0, .nil 0⟩
      · rw [if_neg e]; exact .inl (hrep _ (by omega))
    · rw [nd_set hsl, m2]
      by_cases e : v = s.toNat
      · rw [if_pos e]; omega
      · rw [if_neg e, hrep v hv]; omega
  refine M.TC_bind (Mid := fun (r : List Int × Bool) => DInv g.Places s n r.1 ∧ Relax g.Places r.1) (M.TC_loop (fun (r : List Int × Bool) => DInv g.Places s n r.1 ∧ (r.2 = false → Relax g.Places r.1)) (fun r => 2 * muL r.1 + (if r.2 then 1 else 0)) _ ⟨h0, fun e => by cases e⟩ fun r hI => ?_) fun r hr => M.TC_ret hr
  obtain ⟨d, ch⟩ := r
  obtain ⟨hd, hrel⟩ := hI
  simp only at hd hrel ⊢
  cases ch with
  | false => exact M.TC_ite (fun t => by cases t) (fun _ => M.TC_ret (.inr ⟨_, rfl, hd, hrel rfl⟩))
  | true =>
    refine M.TC_ite (fun _ => ?_) (fun t => by cases t)
    refine M.TC_bind (Mid := fun (r : List Int × Bool) => DInv g.Places s n r.1 ∧ ((r.2 = false ∧ r.1 = d ∧ Relax g.Places d) ∨ (r.2 = true ∧ muL r.1 < muL d))) (M.TC_for (fun i (r : List Int × Bool) => DInv g.Places s n r.1 ∧ ((r.2 = false ∧ r.1 = d ∧ ∀ (j : Nat) p, (j : Int) < i → g.Places[j]? = some p → 0 ≤ nd d p.From.toNat → 0 ≤ nd d p.To.toNat ∧ nd d p.To.toNat ≤ nd d p.From.toNat + p.Tokens) ∨ (r.2 = true ∧ muL r.1 < muL d))) _ (by omega) (by omega) ⟨hd, .inl ⟨rfl, rfl, fun j p hj => by omega⟩⟩ (fun i r i0 i1 hI => ?_) (fun i r hi hI => ?_)) fun r hr => M.TC_ret (.inl ⟨_, rfl, ⟨hr.1, fun e => ?_⟩, ?_⟩)
    · obtain ⟨j, rfl⟩ : ∃ j : Nat, i = j := ⟨i.toNat, by omega⟩
      obtain ⟨d2, ch⟩ := r
      obtain ⟨hd2, hI⟩ := hI
      simp only at hd2 hI ⊢
      have hj : j < g.Places.length := by omega
      have hget : g.Places[j]? = some g.Places[j] := List.getElem?_eq_getElem hj
      have hmem := List.getElem_mem hj
      generalize g.Places[j] = p at hget hmem
      obtain ⟨f1, t1, k0, k5⟩ := hg.pl p hmem
      have hl2 := hd2.len
      have cf := nd_int (d := d2) f1.1 (by omega)
      have ct := nd_int (d := d2) t1.1 (by omega)
      have hb := hd2.bd p.From.toNat (by omega)
      have hc := cnt_le d2
      refine M.TC_bind (Mid := fun (r : List Int × Bool) => DInv g.Places s n r.1 ∧ ((r.2 = false ∧ r.1 = d ∧ ∀ (j' : Nat) p, (j' : Int) < (j : Int) + 1 → g.Places[j']? = some p → 0 ≤ nd d p.From.toNat → 0 ≤ nd d p.To.toNat ∧ nd d p.To.toNat ≤ nd d p.From.toNat + p.Tokens) ∨ (r.2 = true ∧ muL r.1 < muL d))) ?_ (fun r hr => M.TC_ret (.inl ⟨_, rfl, hr⟩))
      have keep : (0 ≤ nd d2 p.From.toNat → 0 ≤ nd d2 p.To.toNat ∧ nd d2 p.To.toNat ≤ nd d2 p.From.toNat + p.Tokens) → ((ch = false ∧ d2 = d ∧ ∀ (j' : Nat) p, (j' : Int) < (j : Int) + 1 → g.Places[j']? = some p → 0 ≤ nd d p.From.toNat → 0 ≤ nd d p.To.toNat ∧ nd d p.To.toNat ≤ nd d p.From.toNat + p.Tokens) ∨ (ch = true ∧ muL d2 < muL d)) := fun hk => by
        rcases hI with ⟨e1, e2, e3⟩ | hI
        · refine .inl ⟨e1, e2, fun j' q hj' hq => ?_⟩
          by_cases e : j' = j
          · subst e
            rw [hget] at hq
            cases hq
            rw [← e2]; exact hk
          · exact e3 j' q (by omega) hq
        · exact .inr hI
      refine M.TC_bindC (M.Conv_get (x := p) (by omega) (by rw [Int.toNat_natCast]; exact hget)) (M.TC_bindC cf (M.TC_ite (fun t => M.TC_ret ⟨hd2, keep fun h => ?_⟩) (fun t => ?_)))
      · have := of_decide_eq_true t; omega
      · have hf : 0 ≤ nd d2 p.From.toNat := by have := of_decide_eq_false t; omega
        have ew : w64 (nd d2 p.From.toNat + p.Tokens) = nd d2 p.From.toNat + p.Tokens := w64_eq _ (by omega)
        refine M.TC_bindC cf ?_
        rw [ew]
        refine (M.TC_bindC ct (M.TC_bindC (x := decide (nd d2 p.To.toNat < 0) || decide (nd d2 p.From.toNat + p.Tokens < nd d2 p.To.toNat)) (Conv_or fun _ => M.Conv_bind ct (M.Conv_ret _)) (M.TC_ite (fun t2 => ?_) (fun t2 => M.TC_ret ⟨hd2, keep fun _ => ?_⟩))))
        · have t2 : nd d2 p.To.toNat < 0 ∨ nd d2 p.From.toNat + p.Tokens < nd d2 p.To.toNat := by simpa using t2
          obtain ⟨u1, u2⟩ := hd2.upd hg hs hmem hf t2
          refine M.TC_bindC ct (M.TC_bindC (upd_int t1.1 (by omega)) (M.TC_ret ⟨u1, .inr ⟨rfl, ?_⟩⟩))
          rcases hI with ⟨_, e2, _⟩ | ⟨_, hI⟩
          · subst e2; exact u2
          · exact Nat.lt_trans u2 hI
        · have t2 : ¬ nd d2 p.To.toNat < 0 ∧ ¬ nd d2 p.From.toNat + p.Tokens < nd d2 p.To.toNat := by simpa using t2
          omega
    · refine ⟨hI.1, hI.2.imp (fun ⟨e1, e2, e3⟩ => ⟨e1, e2, fun p hp => ?_⟩) id⟩
      obtain ⟨j, hj, rfl⟩ := List.mem_iff_getElem.1 hp
      exact e3 j _ (by clear hI; omega) (List.getElem?_eq_getElem hj)
    · rcases hr.2 with ⟨_, e2, e3⟩ | ⟨e1, _⟩
      · rw [e2]; exact e3
      · rw [e1] at e; cases e
    · rcases hr.2 with ⟨e1, e2, _⟩ | ⟨e1, e2⟩
      · simp only [e1, e2]; simp
      · simp only [e1]; simp; omega

structure TokP (ps : List TPlace) (n : Nat) (k : Nat) (f : Nat → Nat → Int) : Prop where
  snd : ∀ v u, v < n → u < n → f v u = -1000000000000000 ∨ ∃ p ∈ ps, p.To = (v : Int) ∧ p.From = (u : Int) ∧ f v u = - p.Tokens
  cpl : ∀ (j : Nat) p, j < k → ps[j]? = some p → f p.To.toNat p.From.toNat ≠ -1000000000000000 ∧ - p.Tokens ≤ f p.To.toNat p.From.toNat
theorem tokens_ok {g : TGraph} {n : Nat} (hg : Gr g n) : ∃ f, M.Conv (spec_l12Tokens g) (matF n n f) ∧ TokP g.Places n g.Places.length f := by
  have hn := hg.hi
  have hn1 := hg.lo
  have hpl := hg.len
  suffices key : M.TC (spec_l12Tokens g) (fun a => ∃ f, a = matF n n f ∧ TokP g.Places n g.Places.length f) by
    obtain ⟨_, c, f, rfl, h⟩ := key
    exact ⟨f, c, h⟩
  unfold spec_l12Tokens
  rw [hg.ev]
  refine M.TC_bindC (spec_l02Bottom_ok (by omega) (by omega)) ?_
  refine M.TC_bind (Mid := fun (r : List (List Int) × Int) => ∃ f, r.1 = matF n n f ∧ TokP g.Places n g.Places.length f) (M.TC_loop (fun (r : List (List Int) × Int) => ∃ (f : Nat → Nat → Int) (i : Nat), i ≤ g.Places.length ∧ r = (matF n n f, (i : Int)) ∧ TokP g.Places n i f) (fun r => (g.Places.length - r.2).toNat) _ ⟨_, 0, by omega, rfl, fun v u _ _ => .inl rfl, fun j p hj => by omega⟩ fun r hI => ?_) fun r hr => M.TC_ret hr
  obtain ⟨f, i, hi, rfl, hf⟩ := hI
  refine M.TC_ite (fun t => ?_) (fun t => M.TC_ret (.inr ⟨_, rfl, f, rfl, ?_⟩))
  · have hlt : i < g.Places.length := by have := of_decide_eq_true t; simp only at this; omega
    have hget : g.Places[i]? = some g.Places[i] := List.getElem?_eq_getElem hlt
    have hmem := List.getElem_mem hlt
    generalize g.Places[i] = p at hget hmem
    obtain ⟨f1, t1, k0, k5⟩ := hg.pl p hmem
    obtain ⟨v, hv⟩ : ∃ v : Nat, p.To = v := ⟨p.To.toNat, by omega⟩
    obtain ⟨u, hu⟩ : ∃ u : Nat, p.From = u := ⟨p.From.toNat, by omega⟩
    have hvn : v < n := by omega
    have hun : u < n := by omega
    simp only
    refine M.TC_bindC (M.Conv_get (x := p) (by omega) (by rw [Int.toNat_natCast]; exact hget)) ?_
    rw [hv, hu]
    have ew : w64 (0 - p.Tokens) = - p.Tokens := by rw [w64_eq _ (by omega)]; omega
    refine M.TC_bindC (idx_tab hvn) (M.TC_bindC (idx_tab hvn) (M.TC_bindC (idx_tab hun) (M.TC_bindC (idx_tab hun) (M.TC_bindC (M.Conv_upd (by rw [tab_len]; exact hun)) (M.TC_ret (.inl ⟨_, rfl, ⟨fun a b => if a = v ∧ b = u then mx (f v u) (- p.Tokens) else f a b, i + 1, by omega, ?_, ?_, ?_⟩, ?_⟩))))))
    · rw [ew]
      refine Prod.ext ?_ (by simp only; rw [w64_eq _ (by omega)]; omega)
      simp only [Int.toNat_natCast]
      have := matF_set (m := n) (n := n) (i := v) (j := u) (f := f) (g := fun a b => if a = v ∧ b = u then mx (f v u) (- p.Tokens) else f a b) (fun a b _ _ h => by rw [if_neg h])
      rw [if_pos ⟨rfl, rfl⟩] at this
      exact this
    · intro a b ha hb
      by_cases e : a = v ∧ b = u
      · obtain ⟨rfl, rfl⟩ := e
        rw [if_pos ⟨rfl, rfl⟩, mx_eq]
        by_cases e2 : f a b ≤ - p.Tokens
        · rw [show max (f a b) (-p.Tokens) = -p.Tokens by omega]
          exact .inr ⟨p, hmem, hv, hu, rfl⟩
        · rw [show max (f a b) (-p.Tokens) = f a b by omega]
          exact hf.snd a b ha hb
      · rw [if_neg e]; exact hf.snd a b ha hb
    · intro j q hj hq
      obtain ⟨g1, g2, _⟩ := hg.pl q (List.mem_of_getElem? hq)
      by_cases e : j = i
      · subst e
        rw [hget] at hq
        cases hq
        rw [if_pos ⟨by omega, by omega⟩, mx_eq]
        omega
      · have := hf.cpl j q (by omega) hq
        by_cases e2 : q.To.toNat = v ∧ q.From.toNat = u
        · rw [if_pos e2, mx_eq]
          rw [e2.1, e2.2] at this
          omega
        · rw [if_neg e2]; exact this
    · simp only
      rw [w64_eq _ (by omega)]; omega
  · have : i = g.Places.length := by have := of_decide_eq_false t; simp only at this; omega
    subst this; exact hf
def addM (a b : List (List Int)) (m n : Nat) : List (List Int) := matF m n fun i j => mx (entA a i j) (entA b i j)
theorem spec_l02Own_ok {a : List (List Int)} {w : Nat} (h : Shp a w) : M.Conv (spec_l02Own a) a := by
  have hr := h.rows
  have hc := h.cols
  unfold spec_l02Own
  refine M.Conv_bind ((Conv_forV (fun i => a.take i) (by omega) fun i hi => ?_).of (List.take_of_length_le (Nat.le_refl _))) (M.Conv_ret _)
  have hrow := rowN_get hi
  have hl := h.row _ (List.mem_of_getElem? hrow)
  refine M.Conv_bind (get_row hrow) (M.Conv_bind (spec_l01Own_ok (by unfold smI; omega)) (M.Conv_bind (M.Conv_app (by simp; omega)) ((M.Conv_ret _).of (congrArg Sum.inl ?_))))
  rw [List.take_add_one, hrow]; rfl
theorem spec_l02Add_ok {a b : List (List Int)} {n : Nat} (ha : Shp a n) (hb : Shp b n) (hl : b.length = a.length) : M.Conv (spec_l02Add a b) (addM a b a.length n) := by
  have har := ha.rows
  have hac := ha.cols
  unfold spec_l02Add addM
  refine M.Conv_bind (spec_l02Own_ok ha) ?_
  let g : Nat → Nat → Int := fun i j => mx (entA a i j) (entA b i j)
  have e0 : a = matF a.length n (part g (entA a) 0 0) := (mat_eq ha).trans part_zero.symm
  refine M.Conv_bind (x := matF a.length n g) ?_ (M.Conv_ret _)
  have key := (Conv_forV (n := a.length) (f := (fun i1 => (fun (s1 : (List (List Int))) => M.bind (M.loop (fun (s2 : (List (List Int)) × Int) => M.bind (M.idx s2.1 i1) (fun x4 => M.ite (decide (s2.2 < (x4.length : Int))) (M.bind (M.idx s2.1 i1) (fun x5 => M.bind (M.idx s2.1 i1) (fun x6 => M.bind (M.idx x6 s2.2) (fun x7 => M.bind (M.idx b i1) (fun x8 => M.bind (M.idx x8 s2.2) (fun x9 => M.bind (M.idx x5 s2.2) (fun x10 => M.bind (M.upd x5 s2.2 (mx x7 x9)) (fun l1 => M.ret (.inl ((s2.1.set i1.toNat l1), (w64 (s2.2 + 1)))))))))))) (M.ret (.inr (s2.1, s2.2))))) (s1, 0)) (fun x3 => M.ret (.inl x3.1))))) (fun i => matF a.length n (part g (entA a) i 0)) (by omega) fun i hi => ?_).of (r' := matF a.length n g) part_all
  · rw [← e0] at key
    exact key
  · refine M.Conv_bind (x := (matF a.length n (part g (entA a) i n), (n : Int))) ?_ ((M.Conv_ret _).of (congrArg Sum.inl part_row))
    refine conv_up0 (fun j => (matF a.length n (part g (entA a) i j), (j : Int))) (n := n) (k0 := 0) rfl (by omega) (fun j _ hj => ?_) ?_
    · obtain ⟨rb, b1, _, b2⟩ := ent_read hb (i := i) (j := j) (by omega) hj
      have hp : part g (entA a) i j i j = entA a i j := by simp [part]
      have g1 := idx_tab (h := part g (entA a) i j i) hj
      rw [hp] at g1
      refine M.Conv_bind (idx_tab hi) ?_
      refine M.Conv_ite (fun _ => ?_) (fun t => by have := of_decide_eq_false t; simp only [tab_len] at this; omega)
      refine M.Conv_bind (idx_tab hi) (M.Conv_bind (idx_tab hi) (M.Conv_bind g1 (M.Conv_bind b1 (M.Conv_bind b2 (M.Conv_bind g1 (M.Conv_bind (M.Conv_upd (by rw [tab_len]; exact hj)) ((M.Conv_ret _).of (congrArg Sum.inl (Prod.ext ?_ ?_)))))))))
      · simp only [Int.toNat_natCast]
        exact part_step (g := g)
      · simp only
        rw [w64_eq _ (by omega)]; omega
    · refine M.Conv_bind (idx_tab hi) ?_
      exact M.Conv_ite (fun t => by have := of_decide_eq_true t; simp only [tab_len] at this; omega) (fun _ => M.Conv_ret _)
theorem same_tc {a b : List (List Int)} {w : Nat} (ha : Shp a w) (hb : Shp b w) (hl : b.length = a.length) : ∃ r, M.Conv (spec_l02Same a b) r := by
  have har := ha.rows
  have hac := ha.cols
  suffices key : M.TC (spec_l02Same a b) (fun _ => True) by obtain ⟨r, c, _⟩ := key; exact ⟨r, c⟩
  unfold spec_l02Same
  refine M.TC_ite (fun _ => M.TC_ret trivial) (fun _ => M.TC_bind (Mid := fun _ => True) (M.TC_for (fun _ _ => True) _ (by omega) (by omega) trivial (fun i s i0 i1 _ => ?_) (fun _ _ _ _ => trivial)) fun r _ => ?_)
  · obtain ⟨j, rfl⟩ : ∃ j : Nat, i = j := ⟨i.toNat, by omega⟩
    have r1 := rowN_get (a := a) (i := j) (by omega)
    have l1 := ha.row _ (List.mem_of_getElem? r1)
    exact M.TC_bindC (get_row r1) (M.TC_bindC (get_row (rowN_get (a := b) (i := j) (by omega))) (M.TC_bindC (spec_l01Same_ok (by omega)) (M.TC_ite (fun _ => M.TC_ret (.inr ⟨_, rfl, trivial⟩)) (fun _ => M.TC_ret (.inl ⟨_, rfl, trivial⟩)))))
  · cases r with
    | inl s => exact M.TC_ret trivial
    | inr r => exact M.TC_ret trivial
def stM (a : List (List Int)) (n : Nat) : Nat → List (List Int)
  | 0 => unitM n
  | k + 1 => addM (unitM n) (mulM a (stM a n k)) n n
structure StarP (ps : List TPlace) (n k : Nat) (S : List (List Int)) : Prop where
  shp : Shp S n
  len : S.length = n
  snd : ∀ v u, v < n → u < n → entA S v u = -1000000000000000 ∨ ((-5 * (k : Int) ≤ entA S v u ∧ entA S v u ≤ 0) ∧ Wk ps u k v (- entA S v u))
  cpl : ∀ (v u : Nat) (w : Int), v < n → u < n → Wk ps u k v w → entA S v u ≠ -1000000000000000 ∧ - w ≤ entA S v u
theorem star_step {g : TGraph} {n k : Nat} {f : Nat → Nat → Int} {S : List (List Int)} (hg : Gr g n) (hf : TokP g.Places n g.Places.length f) (hk : k ≤ 20) (h : StarP g.Places n k S) : Mat (matF n n f) n ∧ StarP g.Places n (k + 1) (addM (unitM n) (mulM (matF n n f) S) n n) := by
  have hn := hg.hi
  have hn1 := hg.lo
  have hfb : ∀ v u, v < n → u < n → f v u = -1000000000000000 ∨ (-5 ≤ f v u ∧ f v u ≤ 0) := fun v u hv hu => by
    rcases hf.snd v u hv hu with e | ⟨p, hp, _, _, e⟩
    · exact .inl e
    · have := hg.pl p hp; right; omega
  have ha : Mat (matF n n f) n := mat_of ⟨hn1, hn⟩ ⟨hn1, hn⟩ fun i j hi hj => bd_val (by
    have := hfb i j hi hj
    unfold Bd; omega)
  have al : (matF n n f).length = n := matF_len _ _ _
  have hae : ∀ v u, v < n → u < n → entA (matF n n f) v u = f v u := fun v u hv hu => entA_matF hv hu
  have hSb : ∀ v u, v < n → u < n → Bd 2000000 (entA S v u) := fun v u hv hu => by
    rcases h.snd v u hv hu with e | ⟨e, _⟩
    · exact .inl e
    · right; omega
  have hd : ∀ v u, v < n → u < n → DotP (f v) (fun j => entA S j u) n (entA (mulM (matF n n f) S) v u) := fun v u hv hu => by
    have := mul_dot ha.shp h.shp h.len (fun i j hi hj => bd_up (mat_bd ha hi hj)) hSb (i := v) (k := u) (by omega) hu
    exact this.congr (fun j hj => hae v j hv hj) (fun j hj => rfl)
  have hen : ∀ v u, v < n → u < n → entA (addM (unitM n) (mulM (matF n n f) S) n n) v u = mx (if v = u then 0 else -1000000000000000) (entA (mulM (matF n n f) S) v u) := fun v u hv hu => by
    unfold addM
    rw [entA_matF hv hu, unit_ent hv hu]
  refine ⟨ha, shp_of ⟨hn1, hn⟩ ⟨hn1, hn⟩, matF_len _ _ _, fun v u hv hu => ?_, fun v u w hv hu hw => ?_⟩
  · rw [hen v u hv hu, mx_eq]
    have d := hd v u hv hu
    have hdot : entA (mulM (matF n n f) S) v u = -1000000000000000 ∨ ((-5 * ((k + 1 : Nat) : Int) ≤ entA (mulM (matF n n f) S) v u ∧ entA (mulM (matF n n f) S) v u ≤ 0) ∧ Wk g.Places u (k + 1) v (- entA (mulM (matF n n f) S) v u)) := by
      rcases d.on with e | ⟨j, hj, n1, n2, e⟩
      · exact .inl e
      · right
        obtain ⟨p, hp, p1, p2, p3⟩ := (hf.snd v j hv hj).resolve_left n1
        obtain ⟨b1, b2⟩ := (h.snd j u hj hu).resolve_left n2
        have hb := hfb v j hv hj
        refine ⟨by omega, ?_⟩
        have := Wk.step k p _ hp (p2 ▸ b2)
        rw [p1] at this
        rw [show - entA (mulM (matF n n f) S) v u = - entA S j u + p.Tokens by omega]
        exact this
    by_cases e : v = u
    · subst e
      rw [if_pos rfl]
      right
      have hz : max 0 (entA (mulM (matF n n f) S) v v) = 0 := by
        rcases hdot with e | ⟨e, _⟩ <;> omega
      rw [hz]
      exact ⟨by omega, .nil _⟩
    · rw [if_neg e]
      rcases hdot with e | ⟨e1, e2⟩
      · rw [e]; exact .inl rfl
      · rw [show max (-1000000000000000) (entA (mulM (matF n n f) S) v u) = entA (mulM (matF n n f) S) v u by omega]
        exact .inr ⟨e1, e2⟩
  · rw [hen v u hv hu, mx_eq]
    have d := hd v u hv hu
    generalize hvv : (v : Int) = vv at hw
    cases hw with
    | nil =>
      obtain rfl : v = u := by omega
      rw [if_pos rfl]; omega
    | step k p w' hp hw' =>
      obtain ⟨f1, t1, k0, k5⟩ := hg.pl p hp
      obtain ⟨j, hj⟩ : ∃ j : Nat, p.From = j := ⟨p.From.toNat, by omega⟩
      rw [hj] at hw'
      obtain ⟨c1, c2⟩ := h.cpl j u w' (by omega) hu hw'
      obtain ⟨i, hi, rfl⟩ := List.mem_iff_getElem.1 hp
      obtain ⟨a1, a2⟩ := hf.cpl i _ hi (List.getElem?_eq_getElem hi)
      rw [hj, ← hvv, Int.toNat_natCast, Int.toNat_natCast] at a1 a2
      have := d.up j (by omega) a1 c1
      have b1 := hfb v j hv (by omega)
      have b2 := hSb j u (by omega) hu
      unfold Bd at b2
      split <;> omega
theorem star_ok {g : TGraph} {n : Nat} {f : Nat → Nat → Int} (hg : Gr g n) (hf : TokP g.Places n g.Places.length f) : ∃ S b, M.Conv (spec_l03Star (matF n n f)) (S, b) ∧ StarP g.Places n n S := by
  have hn := hg.hi
  have hn1 := hg.lo
  have al : (matF n n f).length = n := matF_len _ _ _
  have hu := unit_mat (n := n) ⟨hn1, hn⟩
  have h0 : StarP g.Places n 0 (stM (matF n n f) n 0) := by
    refine ⟨hu.shp, matF_len _ _ _, fun v u hv hu => ?_, fun v u w hv hu hw => ?_⟩
    · show entA (unitM n) v u = _ ∨ ((_ ≤ entA (unitM n) v u ∧ entA (unitM n) v u ≤ 0) ∧ Wk g.Places u 0 v (- entA (unitM n) v u))
      rw [unit_ent hv hu]
      by_cases e : v = u
      · subst e; rw [if_pos rfl]; exact .inr ⟨by omega, .nil _⟩
      · rw [if_neg e]; exact .inl rfl
    · show entA (unitM n) v u ≠ _ ∧ - w ≤ entA (unitM n) v u
      generalize hvv : (v : Int) = vv at hw
      cases hw
      obtain rfl : v = u := by omega
      rw [unit_ent hv hu, if_pos rfl]; omega
  have hk : ∀ k, k ≤ 11 → StarP g.Places n k (stM (matF n n f) n k) := by
    intro k
    induction k with
    | zero => exact fun _ => h0
    | succ k ih => exact fun hk => (star_step hg hf (by omega) (ih (by omega))).2
  have ha := (star_step hg hf (by omega) h0).1
  have round : ∀ k, k ≤ 10 → M.Conv (spec_l02Multiply (matF n n f) (stM (matF n n f) n k)) (mulM (matF n n f) (stM (matF n n f) n k)) ∧ M.Conv (spec_l02Add (unitM n) (mulM (matF n n f) (stM (matF n n f) n k))) (stM (matF n n f) n (k + 1)) := fun k hk10 => by
    have h := hk k (by omega)
    have hm := mulM_shp ha.shp h.shp
    refine ⟨spec_l02Multiply_ok ha.shp h.shp h.len, ?_⟩
    have := spec_l02Add_ok hu.shp hm (by rw [mulM_eq, matF_len, matF_len]; exact (matF_len _ _ _).symm)
    rwa [show (unitM n).length = n from matF_len _ _ _] at this
  unfold spec_l03Star
  rw [al]
  obtain ⟨r1, r2⟩ := round n (by omega)
  obtain ⟨b, hb⟩ := same_tc (a := stM (matF n n f) n (n + 1)) (b := stM (matF n n f) n n) (hk (n + 1) (by omega)).shp (hk n (by omega)).shp (by rw [(hk (n + 1) (by omega)).len, (hk n (by omega)).len])
  refine ⟨stM (matF n n f) n n, b, ?_, hk n (by omega)⟩
  refine M.Conv_bind (spec_l02Unit_ok hn) (M.Conv_bind (x := stM (matF n n f) n n) ?_ (M.Conv_bind (spec_l02Unit_ok hn) (M.Conv_bind r1 (M.Conv_bind r2 (M.Conv_bind hb (M.Conv_ret _))))))
  refine Conv_forV (fun k => stM (matF n n f) n k) (by omega) fun k hkn => ?_
  obtain ⟨r1, r2⟩ := round k (by omega)
  exact M.Conv_bind (spec_l02Unit_ok hn) (M.Conv_bind r1 (M.Conv_bind r2 (M.Conv_ret _)))
theorem nodup_lt : ∀ (n : Nat) (l : List Nat), l.Nodup → (∀ v ∈ l, v < n) → l.length ≤ n
  | 0, [], _, _ => Nat.le_refl _
  | 0, v :: _, _, h => absurd (h v List.mem_cons_self) (by omega)
  | n + 1, l, hd, h => by
    by_cases hm : n ∈ l
    · have := nodup_lt n (l.erase n) (hd.erase n) (fun v hv => by
        have h1 := (hd.mem_erase_iff).1 hv
        have := h v h1.2
        have := h1.1
        omega)
      rw [List.length_erase_of_mem hm] at this
      omega
    · have := nodup_lt n l hd (fun v hv => by
        have := h v hv
        have : v ≠ n := fun e => hm (e ▸ hv)
        omega)
      omega
theorem chain {P : Nat → Nat → Prop} {n s : Nat} (hs : s < n) (h0 : P 0 s) (mono : ∀ k v, P k v → P (k + 1) v) (step : ∀ k, (∀ v, v < n → P (k + 1) v → P k v) → ∀ v, v < n → P (k + 2) v → P (k + 1) v) : ∀ k v, v < n → P k v → P n v := by
  have key : ∀ k, k ≤ n → (∃ j, j < k ∧ ∀ v, v < n → P (j + 1) v → P j v) ∨ ∃ l : List Nat, l.Nodup ∧ l.length = k + 1 ∧ ∀ v ∈ l, v < n ∧ P k v := by
    intro k
    induction k with
    | zero => exact fun _ => .inr ⟨[s], by simp, rfl, fun v hv => by simp at hv; subst hv; exact ⟨hs, h0⟩⟩
    | succ k ih =>
      intro hk
      rcases ih (by omega) with ⟨j, hj, h⟩ | ⟨l, l1, l2, l3⟩
      · exact .inl ⟨j, by omega, h⟩
      · by_cases hst : ∀ v, v < n → P (k + 1) v → P k v
        · exact .inl ⟨k, by omega, hst⟩
        · right
          have : ∃ v, v < n ∧ P (k + 1) v ∧ ¬ P k v := by
            refine Classical.byContradiction fun hc => hst fun v hv hp => Classical.byContradiction fun hnp => hc ⟨v, hv, hp, hnp⟩
          obtain ⟨v, hv, hp, hnp⟩ := this
          refine ⟨v :: l, List.nodup_cons.2 ⟨fun hm => hnp (l3 v hm).2, l1⟩, by simp [l2], fun u hu => ?_⟩
          rcases List.mem_cons.1 hu with rfl | hu
          · exact ⟨hv, hp⟩
          · exact ⟨(l3 u hu).1, mono _ _ (l3 u hu).2⟩
  obtain ⟨j, hj, hst⟩ : ∃ j, j < n ∧ ∀ v, v < n → P (j + 1) v → P j v := by
    rcases key n (Nat.le_refl _) with h | ⟨l, l1, l2, l3⟩
    · exact h
    · have := nodup_lt n l l1 fun v hv => (l3 v hv).1
      omega
  have up : ∀ d k v, P k v → P (k + d) v := by
    intro d
    induction d with
    | zero => exact fun k v h => h
    | succ d ih => exact fun k v h => mono _ _ (ih k v h)
  have stay : ∀ d, ∀ v, v < n → P (j + d + 1) v → P (j + d) v := by
    intro d
    induction d with
    | zero => exact hst
    | succ d ih => exact step (j + d) ih
  have down : ∀ d v, v < n → P (j + d) v → P j v := by
    intro d
    induction d with
    | zero => exact fun v _ h => h
    | succ d ih => exact fun v hv h => ih v hv (stay d v hv h)
  intro k v hv hp
  have h1 : P (j + k) v := by have := up j k v hp; rwa [Nat.add_comm] at this
  have h2 := down k v hv h1
  have := up (n - j) j v h2
  rwa [show j + (n - j) = n by omega] at this
theorem short_way {g : TGraph} {n : Nat} (hg : Gr g n) {s : Int} (hs : 0 ≤ s ∧ s < n) {D : List Int} (hD : DInv g.Places s n D) (hR : Relax g.Places D) {v : Int} (h0 : 0 ≤ v) (hv : v < n) (hd : 0 ≤ nd D v.toNat) : Wk g.Places s n v (nd D v.toNat) := by
  have key := chain (P := fun k u => Wk g.Places s k (u : Int) (nd D u)) (n := n) (s := s.toNat) (by omega) (by
    rw [hD.src, show ((s.toNat : Nat) : Int) = s by omega]
    exact .nil 0) (fun k u h => h.mono (by omega)) (fun k hst u hu h => by
    generalize huu : (u : Int) = uu at h
    generalize hww : nd D u = ww at h
    cases h with
    | nil => exact .nil _
    | step k p w hp hw =>
      obtain ⟨f1, t1, k0, k5⟩ := hg.pl p hp
      have l1 := hR.le hD.src hw
      have l2 := hR p hp l1.1
      have hu' : p.To.toNat = u := by omega
      rw [hu'] at l2
      have hw2 : w = nd D p.From.toNat := by omega
      rw [hw2] at hw
      have h1 := hst p.From.toNat (by omega) (by rw [show ((p.From.toNat : Nat) : Int) = p.From by omega]; exact hw)
      rw [show ((p.From.toNat : Nat) : Int) = p.From by omega] at h1
      have h2 := Wk.step k p _ hp h1
      rw [← hw2] at h2
      exact h2)
  rcases hD.way v h0 hv with e | ⟨_, k, hk⟩
  · omega
  · have := key k v.toNat (by omega) (by rw [show ((v.toNat : Nat) : Int) = v by omega]; exact hk)
    rwa [show ((v.toNat : Nat) : Int) = v by omega] at this
theorem same_TokenDistance (g : TGraph) (_ : okTGraph g) (from_ : Int) (_ : inI64 from_) (to : Int) (_ : inI64 to) (sg : smG g) : Two (spec_TokenDistance g from_ to) (impl_TokenDistance g from_ to) (fun _ => True) := by
  have hl : g.Places.length ≤ 9223372036854775806 := by have := sg; unfold smG smP at this; omega
  unfold spec_TokenDistance impl_TokenDistance
  refine Two.bindC (spec_IsEventGraph_ok hl) (impl_IsEventGraph_ok hl) (Two.ite (fun _ => Two.ret _ trivial) (fun h => ?_))
  obtain ⟨n, hg⟩ := gr_of (by simpa using h)
  have hn := hg.hi
  have ew : w64 (g.Events - 1) = (n : Int) - 1 := by rw [hg.ev, w64_eq _ (by have := hg.lo; omega)]
  have i1 : ∀ e, M.Conv (spec_l01In e 0 (w64 (g.Events - 1))) (inB e 0 ((n : Int) - 1)) := fun e => by rw [ew]; exact spec_l01In_ok _ _ _
  have i2 : ∀ e, M.Conv (impl_isEvent g e) (inB e 0 ((n : Int) - 1)) := fun e => by have := impl_isEvent_ok g e; rwa [ew] at this
  refine Two.bindC (i1 from_) (i2 from_) (Two.bindC (x := !(inB from_ 0 ((n : Int) - 1)) || !(inB to 0 ((n : Int) - 1))) (x' := !(inB from_ 0 ((n : Int) - 1)) || !(inB to 0 ((n : Int) - 1))) (Conv_or fun _ => M.Conv_bind (i1 to) (M.Conv_ret _)) (Conv_or fun _ => M.Conv_bind (i2 to) (M.Conv_ret _)) (Two.ite (fun _ => Two.ret _ trivial) (fun t => ?_)))
  have t : (0 ≤ from_ ∧ from_ ≤ (n : Int) - 1) ∧ (0 ≤ to ∧ to ≤ (n : Int) - 1) := by simpa [inB] using t
  obtain ⟨⟨a1, a2⟩, b1, b2⟩ := t
  obtain ⟨D, d1, d2, d3⟩ := distances_ok hg (s := from_) ⟨a1, by omega⟩
  obtain ⟨f, f1, f2⟩ := tokens_ok hg
  obtain ⟨S, b, s1, s2⟩ := star_ok hg f2
  obtain ⟨v, rfl⟩ : ∃ v : Nat, to = v := ⟨to.toNat, by omega⟩
  obtain ⟨u, rfl⟩ : ∃ u : Nat, from_ = u := ⟨from_.toNat, by omega⟩
  have hvn : v < n := by omega
  have hun : u < n := by omega
  obtain ⟨row, r1, _, r2⟩ := ent_read s2.shp (i := v) (j := u) (by rw [s2.len]; exact hvn) hun
  have hS : M.Conv (spec_l12Distance g u v) (w64 (0 - entA S v u), entA S v u != (-1000000000000000)) := by
    unfold spec_l12Distance
    exact M.Conv_bind f1 (M.Conv_bind s1 (M.Conv_bind r1 (M.Conv_bind r2 (M.Conv_bind r1 (M.Conv_bind r2 (M.Conv_ret _))))))
  have hD := nd_int (d := D) (v := (v : Int)) (by omega) (by rw [d2.len]; omega)
  rw [Int.toNat_natCast] at hD
  refine Two.left hS (Two.right d1 (Two.right hD ?_))
  by_cases hneg : nd D v < 0
  · have hbot : entA S v u = -1000000000000000 := by
      rcases s2.snd v u hvn hun with e | ⟨_, hw⟩
      · exact e
      · have := d3.le d2.src hw
        rw [Int.toNat_natCast] at this
        omega
    rw [hbot]
    exact Two.iteL (fun _ => Two.iteR (fun _ => Two.ret _ trivial) (fun t => by have := of_decide_eq_false t; omega)) (fun t => by simp at t)
  · have hw := short_way hg (s := (u : Int)) (by omega) d2 d3 (v := (v : Int)) (by omega) (by omega) (by rw [Int.toNat_natCast]; omega)
    rw [Int.toNat_natCast] at hw
    obtain ⟨c1, c2⟩ := s2.cpl v u _ hvn hun hw
    obtain ⟨e1, e2⟩ := (s2.snd v u hvn hun).resolve_left c1
    have := d3.le d2.src e2
    rw [Int.toNat_natCast] at this
    have he : entA S v u = - nd D v := by omega
    have hb := d2.bd v hvn
    have hc := cnt_le D
    have hdl := d2.len
    rw [he, w64_eq _ (by omega)]
    refine Two.iteL (fun t => ?_) (fun _ => Two.iteR (fun t => by have := of_decide_eq_true t; omega) (fun _ => ?_))
    · simp at t; omega
    · rw [show 0 - - nd D v = nd D v by omega]
      exact Two.ret _ trivial

inductive RK (E : Nat → Nat → Prop) (n v : Nat) : Nat → Nat → Prop
  | nil (k : Nat) : RK E n v k v
  | step (k j i : Nat) : RK E n v k j → j < n → i < n → E j i → RK E n v (k + 1) i
theorem RK.mono {E : Nat → Nat → Prop} {n v k i : Nat} (h : RK E n v k i) : ∀ {m : Nat}, k ≤ m → RK E n v m i := by
  induction h with
  | nil k => exact fun _ => .nil _
  | step k j i _ hj hi he ih =>
    intro m hm
    obtain ⟨m', rfl⟩ : ∃ m', m = m' + 1 := ⟨m - 1, by omega⟩
    exact .step m' j i (ih (by omega)) hj hi he
def Rch (E : Nat → Nat → Prop) (n v i : Nat) : Prop := ∃ k, RK E n v k i
theorem Rch.step {E : Nat → Nat → Prop} {n v j i : Nat} (h : Rch E n v j) (hj : j < n) (hi : i < n) (he : E j i) : Rch E n v i := let ⟨k, h⟩ := h; ⟨k + 1, .step k j i h hj hi he⟩
theorem Rch.trans {E : Nat → Nat → Prop} {n v j i : Nat} (h : Rch E n v j) (g : Rch E n j i) : Rch E n v i := by
  obtain ⟨k, g⟩ := g
  induction g with
  | nil => exact h
  | step k j' i' _ hj hi he ih => exact ih.step hj hi he
theorem FnExactTokenDistance_ok (aG : TGraph) (gaG : okTGraph aG) (aFrom : Int) (gaFrom : inI64 aFrom) (aTo : Int) (gaTo : inI64 aTo) : M.Conv (laws_FnExactTokenDistance aG aFrom aTo) true := by
  unfold laws_FnExactTokenDistance
  obtain ⟨zaG, hzaG, ssaG⟩ := szG_ok gaG
  refine M.Conv_bind hzaG ?_
  refine M.Conv_ite (fun _ => M.Conv_ret _) (fun qaG => ?_)
  have saG := ssaG qaG
  have nzaG := of_decide_eq_false qaG
  refine M.Conv_bind (toG_ok saG) ?_
  obtain ⟨w, hS, hI, hw⟩ := same_TokenDistance aG gaG aFrom gaFrom aTo gaTo saG
  refine M.Conv_bind hS ?_
  refine M.Conv_bind (toG_ok saG) ?_
  refine M.Conv_bind hI ?_
  refine M.Conv_ite (fun q => ?_) (fun _ => ?_)
  · exfalso; revert q; simp
  refine M.Conv_bind (toG_ok saG) ?_
  refine M.Conv_bind (eqG_refl saG) ?_
  refine M.Conv_ite (fun q => ?_) (fun _ => ?_)
  · exfalso; revert q; simp
  exact M.Conv_ret _
end Go.Proofs.Ytipdgiljgbjjkaa
