/-
  Plain proofs: the plain program of the law ends with true.
  Conditions: None beyond the given statement.
-/
import Derived.Test.YtelopfgolahlpaaGreatP
namespace Go.Proofs.YtelopfgolahlpaaGreat
open Go
/-! ### plain programs: loops over a list -/
namespace M
variable {α β σ ρ : Type}
/-- rounds over the elements of a list, each with its place; a round may leave -/
def run (g : Nat → α → σ → σ ⊕ ρ) (fin : σ → ρ) : Nat → List α → σ → ρ
  | _, [], s => fin s
  | i, x :: xs, s => match g i x s with
    | .inl s' => run g fin (i + 1) xs s'
    | .inr r => r
theorem Conv_forN {l : List α} {f : Int → σ → M (σ ⊕ ρ)} (g : Nat → α → σ → σ ⊕ ρ) (fin : σ → ρ) (I : Nat → σ → Prop) (hi : Int) :
    ∀ (xs : List α) (i : Nat) (s : σ), hi = (i + xs.length : Nat) → I i s → (∀ (j : Nat) x s, xs[j]? = some x → I (i + j) s → Conv (f (i + j : Nat) s) (g (i + j) x s) ∧ ∀ s', g (i + j) x s = .inl s' → I (i + j + 1) s') →
      ∃ N, ∀ n, N ≤ n → forN hi fin f n xs.length i s = some (run g fin i xs s)
  | [], i, s, hh, _, _ => ⟨0, fun n _ => by
      have : ¬ (i : Int) < hi := by rw [hh]; simp
      simp [forN, run, this]⟩
  | x :: xs, i, s, hh, h0, H => by
    have hlt : (i : Int) < hi := by rw [hh]; simp; omega
    obtain ⟨⟨N, hN⟩, hI⟩ := H 0 x s rfl h0
    simp only [Nat.add_zero] at hN hI
    cases hg : g i x s with
    | inl s' =>
      have hi' := hI s' hg
      obtain ⟨N', hN'⟩ := Conv_forN (l := l) g fin I hi xs (i + 1) s' (by rw [hh, List.length_cons]; congr 1; omega) hi' (fun j y s hy hIs => by
        have := H (j + 1) y s (by simpa using hy) (by rw [← Nat.add_assoc, Nat.add_right_comm]; exact hIs)
        rw [show i + (j + 1) = i + 1 + j by omega] at this
        exact this)
      refine ⟨max N N', fun n hn => ?_⟩
      have h1 := hN n (by omega)
      rw [hg] at h1
      simp only [List.length_cons, forN, hlt, decide_true, cond_true, h1, run, hg]
      have := hN' n (by omega)
      simpa using this
    | inr r =>
      refine ⟨N, fun n hn => ?_⟩
      have h1 := hN n hn
      rw [hg] at h1
      simp only [List.length_cons, forN, hlt, decide_true, cond_true, h1, run, hg]
/-- a loop over a list, with an invariant -/
theorem Conv_forI {l : List α} {f : Int → σ → M (σ ⊕ ρ)} {fin : σ → ρ} {s : σ} (g : Nat → α → σ → σ ⊕ ρ) (I : Nat → σ → Prop) (hl : l.length ≤ 9223372036854775807) (h0 : I 0 s)
    (H : ∀ (i : Nat) x s, l[i]? = some x → I i s → Conv (f i s) (g i x s) ∧ ∀ s', g i x s = .inl s' → I (i + 1) s') : Conv (forI 0 (l.length : Int) fin f s) (run g fin 0 l s) := by
  obtain ⟨N, hN⟩ := Conv_forN (l := l) (f := f) g fin I (l.length : Int) l 0 s (by simp) h0 (fun j x s hx hI => by simpa using H j x s hx (by simpa using hI))
  refine ⟨N, fun n hn => ?_⟩
  have h1 : (l.length : Int) ≤ 9223372036854775807 := by omega
  simp only [forI, h1, decide_true, Bool.and_true, show (-9223372036854775808 : Int) ≤ 0 by decide, cond_true]
  have := hN n hn
  simpa using this
/-- .. without one -/
theorem Conv_forL {l : List α} {f : Int → σ → M (σ ⊕ ρ)} {fin : σ → ρ} {s : σ} (g : Nat → α → σ → σ ⊕ ρ) (hl : l.length ≤ 9223372036854775807)
    (H : ∀ (i : Nat) x s, l[i]? = some x → Conv (f i s) (g i x s)) : Conv (forI 0 (l.length : Int) fin f s) (run g fin 0 l s) :=
  Conv_forI g (fun _ _ => True) hl trivial fun i x s hx _ => ⟨H i x s hx, fun _ _ => trivial⟩
theorem Conv.of {m : M α} {r r' : α} (h : Conv m r) (e : r = r') : Conv m r' := e ▸ h
theorem Conv_ite {b : Bool} {x y : M α} {r : α} (h1 : b = true → Conv x r) (h2 : b = false → Conv y r) : Conv (ite b x y) r := by
  cases b
  · exact h2 rfl
  · exact h1 rfl
theorem Conv_ite2 {b : Bool} {x y : M α} {r s : α} (h1 : b = true → Conv x r) (h2 : b = false → Conv y s) : Conv (ite b x y) (bif b then r else s) := by
  cases b
  · exact h2 rfl
  · exact h1 rfl
theorem Conv_guard {b : Bool} (h : b = true) : Conv (guard b) () := ⟨0, fun _ _ => by simp [guard, h]⟩
theorem Conv_upd {l : List α} {i : Nat} {x : α} (h : i < l.length) : Conv (upd l i x) (l.set i x) := ⟨0, fun _ _ => by simp [upd, h]⟩
theorem Conv_get {l : List α} {i : Int} {x : α} (h0 : 0 ≤ i) (h : l[i.toNat]? = some x) : Conv (idx l i) x := ⟨0, fun _ _ => by simp [idx, h0, h]⟩
/-- a value told in both ways of a test, then the rest -/
theorem Conv_bite {b : Bool} {x y : M α} {f : α → M β} {u v : α} {r : β} (h1 : b = true → Conv x u) (h2 : b = false → Conv y v) (g : Conv (f (bif b then u else v)) r) : Conv (bind (ite b x y) f) r :=
  Conv_bind (Conv_ite2 h1 h2) g

/-! searches: a loop that leaves at the first element of a kind -/
theorem run_all (p : α → Bool) (u : Unit ⊕ ρ) : ∀ (i : Nat) (l : List α), run (ρ := Unit ⊕ ρ) (fun _ x _ => bif p x then .inl () else .inr u) (fun s => .inl s) i l () = bif l.all p then .inl () else u
  | _, [] => rfl
  | i, x :: xs => by
    simp only [run, List.all_cons]
    cases p x
    · rfl
    · simpa using run_all p u (i + 1) xs
/-- 'for .. if not p x, return v' -/
theorem Conv_all {l : List α} {f : Int → Unit → M (Unit ⊕ (Unit ⊕ ρ))} (p : α → Bool) (v : ρ) (hl : l.length ≤ 9223372036854775807) (H : ∀ (i : Nat) x, l[i]? = some x → Conv (f i ()) (bif p x then .inl () else .inr (.inr v))) :
    Conv (forI 0 (l.length : Int) (fun s => .inl s) f ()) (bif l.all p then .inl () else .inr v) :=
  (Conv_forL (fun _ x _ => bif p x then .inl () else .inr (.inr v)) hl fun i x _ hx => H i x hx).of (run_all p (.inr v) 0 l)
/-- the same, where the element's place matters to the test -/
theorem run_allI (p : Nat → α → Bool) (u : Unit ⊕ ρ) : ∀ (i : Nat) (l : List α), run (ρ := Unit ⊕ ρ) (fun j x _ => bif p j x then .inl () else .inr u) (fun s => .inl s) i l () = bif (l.zipIdx i).all (fun q => p q.2 q.1) then .inl () else u
  | _, [] => rfl
  | i, x :: xs => by
    simp only [run, List.zipIdx_cons, List.all_cons]
    cases p i x
    · rfl
    · simpa using run_allI p u (i + 1) xs
theorem Conv_allI {l : List α} {f : Int → Unit → M (Unit ⊕ (Unit ⊕ ρ))} (p : Nat → α → Bool) (v : ρ) (hl : l.length ≤ 9223372036854775807) (H : ∀ (i : Nat) x, l[i]? = some x → Conv (f i ()) (bif p i x then .inl () else .inr (.inr v))) :
    Conv (forI 0 (l.length : Int) (fun s => .inl s) f ()) (bif (l.zipIdx 0).all (fun q => p q.2 q.1) then .inl () else .inr v) :=
  (Conv_forL (fun j x _ => bif p j x then .inl () else .inr (.inr v)) hl fun i x _ hx => H i x hx).of (run_allI p (.inr v) 0 l)
/-- 'for i .. if p x, return i' -/
theorem run_find (p : α → Bool) : ∀ (i : Nat) (l : List α), run (σ := Unit) (ρ := Unit ⊕ Int) (fun j x _ => bif p x then .inr (.inr (j : Int)) else .inl ()) (fun s => .inl s) i l () = match l.findIdx? p with
    | some j => .inr ((i + j : Nat) : Int)
    | none => .inl ()
  | _, [] => rfl
  | i, x :: xs => by
    simp only [run, List.findIdx?_cons]
    cases hp : p x
    · simp only [cond_false, run_find p (i + 1) xs, Bool.false_eq_true, if_false]
      cases xs.findIdx? p with
      | none => rfl
      | some j => simp only [Option.map_some]; congr 2; omega
    · simp
theorem Conv_find {l : List α} {f : Int → Unit → M (Unit ⊕ (Unit ⊕ Int))} (p : α → Bool) (hl : l.length ≤ 9223372036854775807) (H : ∀ (i : Nat) x, l[i]? = some x → Conv (f i ()) (bif p x then .inr (.inr (i : Int)) else .inl ())) :
    Conv (forI 0 (l.length : Int) (fun s => .inl s) f ()) (match l.findIdx? p with | some j => .inr (j : Int) | none => .inl ()) :=
  (Conv_forL (fun j x _ => bif p x then .inr (.inr (j : Int)) else .inl ()) hl fun i x _ hx => H i x hx).of (by rw [run_find]; simp)
/-- sums: each round turns what has been gathered -/
theorem run_fold (g : σ → α → σ) : ∀ (i : Nat) (l : List α) (s : σ), run (fun _ x s => .inl (g s x)) (fun s => s) i l s = l.foldl g s
  | _, [], _ => rfl
  | i, x :: xs, s => by simpa [run] using run_fold g (i + 1) xs (g s x)
theorem Conv_fold {l : List α} {f : Int → σ → M (σ ⊕ σ)} {s : σ} (g : σ → α → σ) (hl : l.length ≤ 9223372036854775807) (H : ∀ (i : Nat) x s, l[i]? = some x → Conv (f i s) (.inl (g s x))) :
    Conv (forI 0 (l.length : Int) (fun s => s) f s) (l.foldl g s) :=
  (Conv_forL (fun _ x s => .inl (g s x)) hl fun i x s hx => H i x s hx).of (run_fold g 0 l s)
theorem get_set_append {l r : List α} {x y : α} : (l ++ y :: r).set l.length x = l ++ x :: r := by simp
/-- a loop that fills a list of the same length, element by element -/
theorem run_fill (g : Nat → α → β) (z : β) : ∀ (i : Nat) (l : List α) (d : List β), d.length = i →
    run (fun j x s => .inl (s.set j (g j x))) (fun s => s) i l (d ++ List.replicate l.length z) = d ++ (l.zipIdx i).map (fun q => g q.2 q.1)
  | _, [], d, _ => by simp [run]
  | i, x :: xs, d, hd => by
    subst hd
    simp only [run, List.length_cons, List.replicate_succ, get_set_append]
    have := run_fill g z (d.length + 1) xs (d ++ [g d.length x]) (by simp)
    simp only [List.append_assoc, List.singleton_append] at this
    rw [this]
    simp
theorem Conv_fill {l : List α} {f : Int → List β → M (List β ⊕ List β)} (g : Nat → α → β) (z : β) (hl : l.length ≤ 9223372036854775807)
    (H : ∀ (i : Nat) x s, l[i]? = some x → s.length = l.length → Conv (f i s) (.inl (s.set i (g i x)))) :
    Conv (forI 0 (l.length : Int) (fun s => s) f (List.replicate l.length z)) ((l.zipIdx 0).map (fun q => g q.2 q.1)) := by
  refine (Conv_forI (fun j x s => .inl (s.set j (g j x))) (fun _ s => s.length = l.length) hl (by simp) fun i x s hx hI => ⟨H i x s hx hI, fun s' e => ?_⟩).of ?_
  · cases e; simpa using hI
  · simpa using run_fill g z 0 l [] rfl
theorem zipIdx_map_fst {l : List α} {g : α → β} {i : Nat} : ((l.zipIdx i).map fun q => g q.1) = l.map g := by
  have h : List.map (g ∘ Prod.fst) (l.zipIdx i) = List.map g l := by rw [← List.map_map, List.zipIdx_map_fst]
  exact h
theorem findIdx_any {l : List α} {p : α → Bool} : (decide ((0:Int) ≤ match l.findIdx? p with | some j => (j : Int) | none => -1)) = l.any p := by
  cases h : l.findIdx? p with
  | none => rw [List.findIdx?_eq_none_iff] at h; simp; exact fun x hx => by simpa using h x hx
  | some j =>
    obtain ⟨hj, hp, _⟩ := List.findIdx?_eq_some_iff_getElem.1 h
    simp
    exact ⟨_, List.getElem_mem hj, hp⟩
end M

def finB (x : Int) : Bool := decide (-1000000 ≤ x) && decide (x ≤ 1000000)
def valB (x : Int) : Bool := x == (-1000000000000000) || finB x
theorem eqInt64S_ok {a b : List Int} (ha : a.length ≤ 9223372036854775807) : M.Conv (laws_eqInt64S a b) (decide (a = b)) := by
  unfold laws_eqInt64S
  refine M.Conv_ite (fun h => ?_) (fun h => ?_)
  · have : a ≠ b := by rintro rfl; simp at h
    rw [decide_eq_false this]; exact M.Conv_ret _
  · have hl : a.length = b.length := Int.ofNat.inj (by simpa using h)
    refine M.Conv_bind (M.Conv_allI (fun i x => b[i]? == some x) false ha fun i x hx => ?_) ?_
    · have hi := (List.getElem?_eq_some_iff.1 hx).1
      refine M.Conv_bind (M.Conv_get (by omega) (by simpa using hx)) ?_
      refine M.Conv_bind (M.Conv_get (x := b[i]) (by omega) (by simp [show i < b.length by omega])) ?_
      have hb : (b[i]? == some x) = !(x != b[i]) := by rw [List.getElem?_eq_getElem (by omega), bne, Bool.not_not, Option.some_beq_some, BEq.comm]
      rw [hb]
      cases (x != b[i]) <;> exact M.Conv_ret _
    · have key : ((a.zipIdx 0).all fun q => b[q.2]? == some q.1) = decide (a = b) := by
        by_cases e : a = b
        · subst e
          rw [decide_eq_true rfl, List.all_eq_true]
          rintro ⟨x, i⟩ hq
          have := List.mk_mem_zipIdx_iff_getElem?.1 hq
          simp [this]
        · rw [decide_eq_false e, Bool.eq_false_iff]
          intro h
          apply e
          rw [List.all_eq_true] at h
          refine List.ext_getElem hl fun i h1 h2 => ?_
          have := h (a[i], i) (List.mk_mem_zipIdx_iff_getElem?.2 (List.getElem?_eq_getElem h1))
          simp [h2] at this
          exact this.symm
      rw [key]
      cases decide (a = b) <;> exact M.Conv_ret _
theorem spec_l01In_ok (x lo hi : Int) : M.Conv (spec_l01In x lo hi) (decide (lo ≤ x) && decide (x ≤ hi)) := M.Conv_ret _
theorem spec_l01Finite_ok (x : Int) : M.Conv (spec_l01Finite x) (finB x) := M.Conv_bind (spec_l01In_ok _ _ _) (M.Conv_ret _)
theorem spec_IsValue_ok (x : Int) : M.Conv (spec_IsValue x) (valB x) := by
  unfold spec_IsValue
  refine M.Conv_bind (M.Conv_ite (r := valB x) (fun h => ?_) (fun h => ?_)) (M.Conv_ret _)
  · simp only [valB, h, Bool.true_or]; exact M.Conv_ret _
  · simp only [valB, h, Bool.false_or]; exact M.Conv_bind (spec_l01Finite_ok x) (M.Conv_ret _)
theorem spec_l01All_ok {l : List Int} (f : Bool) (hl : l.length ≤ 9223372036854775807) : M.Conv (spec_l01All l f) (l.all fun x => valB x && !(f && x == (-1000000000000000))) := by
  unfold spec_l01All
  refine M.Conv_bind (M.Conv_all (fun x => valB x && !(f && x == (-1000000000000000))) false hl fun i x hx => ?_) ?_
  · refine M.Conv_bind (M.Conv_get (by omega) (by simpa using hx)) (M.Conv_bind (spec_IsValue_ok x) ?_)
    refine M.Conv_bind (x := !(valB x && !(f && x == (-1000000000000000)))) (M.Conv_ite (fun h => ?_) (fun h => ?_)) ?_
    · simp at h; simp [h]; exact M.Conv_ret _
    · simp at h
      refine M.Conv_bind (x := (f && x == (-1000000000000000))) (M.Conv_ite (fun h => ?_) (fun h => ?_)) (by simp [h]; exact M.Conv_ret _)
      · simp [h]; exact M.Conv_bind (M.Conv_get (by omega) (by simpa using hx)) (M.Conv_ret _)
      · simp [h]; exact M.Conv_ret _
    · cases (valB x && !(f && x == (-1000000000000000))) <;> exact M.Conv_ret _
  · cases (l.all fun x => valB x && !(f && x == (-1000000000000000))) <;> exact M.Conv_ret _
theorem impl_within_ok (x lo hi : Int) : M.Conv (impl_within x lo hi) (decide (lo ≤ x) && decide (x ≤ hi)) := M.Conv_ret _
theorem impl_isFinite_ok (x : Int) : M.Conv (impl_isFinite x) (finB x) := M.Conv_bind (impl_within_ok _ _ _) (M.Conv_ret _)
theorem impl_IsValue_ok (x : Int) : M.Conv (impl_IsValue x) (valB x) := by
  unfold impl_IsValue
  refine M.Conv_bind (M.Conv_ite (r := valB x) (fun h => ?_) (fun h => ?_)) (M.Conv_ret _)
  · simp only [valB, h, Bool.true_or]; exact M.Conv_ret _
  · simp only [valB, h, Bool.false_or]; exact M.Conv_bind (impl_isFinite_ok x) (M.Conv_ret _)
/-- 'slices.ContainsFunc', behind 'slices.IndexFunc' -/
theorem contains_ok {α : Type} {l : List α} {f : Int → Unit → M (Unit ⊕ (Unit ⊕ Int))} (p : α → Bool) (hl : l.length ≤ 9223372036854775807) (H : ∀ (i : Nat) x, l[i]? = some x → M.Conv (f i ()) (bif p x then .inr (.inr (i : Int)) else .inl ())) :
    M.Conv (M.bind (M.bind (M.forI 0 (l.length : Int) (fun s => .inl s) f ()) (fun x1 => M.cont x1 (fun _ => M.ret (-1)) (fun r => M.ret r))) (fun x1 => M.ret (decide (0 ≤ x1)))) (l.any p) := by
  rw [← M.findIdx_any]
  refine M.Conv_bind (M.Conv_bind (M.Conv_find p hl H) ?_) (M.Conv_ret _)
  cases l.findIdx? p <;> exact M.Conv_ret _
theorem any_not {α : Type} {l : List α} {p : α → Bool} : (!l.any fun x => !p x) = l.all p := by
  induction l with
  | nil => rfl
  | cons x xs ih => simp only [List.any_cons, List.all_cons, Bool.not_or, Bool.not_not, ih]
theorem impl_areValues_ok {l : List Int} (hl : l.length ≤ 9223372036854775807) : M.Conv (impl_areValues l) (l.all valB) := by
  unfold impl_areValues slices_ContainsFunc_int_F_impl_areValues_1 slices_IndexFunc_int_F_impl_areValues_1
  refine M.Conv_bind (contains_ok (fun x => !valB x) hl fun i x hx => ?_) ((M.Conv_ret _).of any_not)
  refine M.Conv_bind (M.Conv_get (by omega) (by simpa using hx)) ?_
  refine M.Conv_bind (x := !valB x) (M.Conv_bind (impl_IsValue_ok x) (M.Conv_ret _)) ?_
  cases valB x <;> exact M.Conv_ret _
theorem mx_eq (a b : Int) : mx a b = max a b := by unfold mx; split <;> omega
def smI (l : List Int) : Prop := l.length ≤ 1099511627776
theorem finB_bd {x : Int} (h : finB x = true) : -1000000 ≤ x ∧ x ≤ 1000000 := by simpa [finB] using h
theorem val_ne {x : Int} (h : valB x = true) (hn : (x == (-1000000000000000)) = false) : finB x = true := by simpa [valB, hn] using h
/-- two programs, one answer -/
def Two {α : Type} (m m' : M α) (Post : α → Prop) : Prop := ∃ r, M.Conv m r ∧ M.Conv m' r ∧ Post r
def timesI (a b : Int) : Int := bif (a == (-1000000000000000)) || (b == (-1000000000000000)) then (-1000000000000000) else w64 (a + b)
theorem spec_l01Times_ok (a b : Int) : M.Conv (spec_l01Times a b) (timesI a b) := M.Conv_ite2 (fun _ => M.Conv_ret _) (fun _ => M.Conv_ret _)
theorem impl_times_ok (a b : Int) : M.Conv (impl_times a b) (timesI a b) := M.Conv_ite2 (fun _ => M.Conv_ret _) (fun _ => M.Conv_ret _)
/-- a vector: one to ten values -/
def vecB (x : List Int) : Bool := decide (1 ≤ x.length) && decide (x.length ≤ 10) && x.all valB
theorem spec_l02Vector_ok {x : List Int} (hl : x.length ≤ 9223372036854775807) : M.Conv (spec_l02Vector x) (vecB x) := by
  unfold spec_l02Vector
  refine M.Conv_bind (spec_l01In_ok _ _ _) (M.Conv_bind (x := vecB x) (M.Conv_ite (fun h => ?_) (fun h => ?_)) (M.Conv_ret _))
  · refine M.Conv_bind (spec_l01All_ok false hl) ((M.Conv_ret _).of ?_)
    simp at h
    simp [vecB, show 1 ≤ x.length by omega, show x.length ≤ 10 by omega]
  · refine (M.Conv_ret _).of ?_
    simp only [vecB]
    rw [show (decide (1 ≤ x.length) && decide (x.length ≤ 10)) = false by rw [← h]; congr 1 <;> simp <;> omega]; rfl
theorem eqLoop_ok {a b : List Int} (ha : a.length ≤ 9223372036854775807) (hl : a.length = b.length) : M.Conv (M.forI 0 (a.length : Int) (fun s => .inl s) (fun i1 => (fun (_ : Unit) => M.bind (M.idx a i1) (fun x2 => M.bind (M.idx b i1) (fun x3 => M.ite (x2 != x3) (M.ret (.inr (.inr false))) (M.ret (.inl ())))))) ()) (bif decide (a = b) then (.inl () : Unit ⊕ Bool) else .inr false) := by
  have h := eqInt64S_ok (b := b) ha
  refine (M.Conv_allI (fun i x => b[i]? == some x) false ha fun i x hx => ?_).of ?_
  · have hi := (List.getElem?_eq_some_iff.1 hx).1
    refine M.Conv_bind (M.Conv_get (by omega) (by simpa using hx)) ?_
    refine M.Conv_bind (M.Conv_get (x := b[i]) (by omega) (by simp [show i < b.length by omega])) ?_
    have hb : (b[i]? == some x) = !(x != b[i]) := by rw [List.getElem?_eq_getElem (by omega), bne, Bool.not_not, Option.some_beq_some, BEq.comm]
    rw [hb]
    cases (x != b[i]) <;> exact M.Conv_ret _
  · have key : ((a.zipIdx 0).all fun q => b[q.2]? == some q.1) = decide (a = b) := by
      by_cases e : a = b
      · subst e
        rw [decide_eq_true rfl, List.all_eq_true]
        rintro ⟨x, i⟩ hq
        have := List.mk_mem_zipIdx_iff_getElem?.1 hq
        simp [this]
      · rw [decide_eq_false e, Bool.eq_false_iff]
        intro h
        apply e
        rw [List.all_eq_true] at h
        refine List.ext_getElem hl fun i h1 h2 => ?_
        have := h (a[i], i) (List.mk_mem_zipIdx_iff_getElem?.2 (List.getElem?_eq_getElem h1))
        simp [h2] at this
        exact this.symm
    rw [key]
theorem spec_l01Same_ok {a b : List Int} (ha : a.length ≤ 9223372036854775807) : M.Conv (spec_l01Same a b) (decide (a = b)) := by
  unfold spec_l01Same
  refine M.Conv_ite (fun h => ?_) (fun h => ?_)
  · have : a ≠ b := by rintro rfl; simp at h
    rw [decide_eq_false this]; exact M.Conv_ret _
  · have hl : a.length = b.length := Int.ofNat.inj (by simpa using h)
    refine M.Conv_bind (eqLoop_ok ha hl) ?_
    cases decide (a = b) <;> exact M.Conv_ret _
theorem spec_l01Own_ok {l : List Int} (h : smI l) : M.Conv (spec_l01Own l) l := by
  unfold smI at h
  exact M.Conv_bind (M.Conv_app (by simp; omega)) ((M.Conv_ret _).of (by simp))
def smII (a : List (List Int)) : Prop := a.length ≤ 1048576 ∧ ∀ r ∈ a, r.length ≤ 1048576
def widthN (a : List (List Int)) : Nat := (a.headD []).length
def matB (a : List (List Int)) : Bool := (decide (1 ≤ a.length) && decide (a.length ≤ 10)) && ((decide (1 ≤ widthN a) && decide (widthN a ≤ 10)) && a.all fun r => decide (r.length = widthN a) && r.all valB)
/-- a matrix of w columns -/
structure Mat (a : List (List Int)) (w : Nat) : Prop where
  rows : 1 ≤ a.length ∧ a.length ≤ 10
  cols : 1 ≤ w ∧ w ≤ 10
  row : ∀ r ∈ a, r.length = w ∧ ∀ x ∈ r, valB x = true
theorem matB_mat {a : List (List Int)} (h : matB a = true) : Mat a (widthN a) := by
  simp only [matB, Bool.and_eq_true, decide_eq_true_eq, List.all_eq_true] at h
  exact ⟨h.1, h.2.1, fun r hr => ⟨(h.2.2 r hr).1, (h.2.2 r hr).2⟩⟩
theorem Mat.head {a : List (List Int)} {w : Nat} (h : Mat a w) : ∃ r, a[0]? = some r ∧ r.length = w := by
  have := h.rows
  exact ⟨a[0], List.getElem?_eq_getElem (by omega), (h.row _ (List.getElem_mem (by omega))).1⟩
theorem spec_IsMatrix_ok {a : List (List Int)} (h : smII a) : M.Conv (spec_IsMatrix a) (matB a) := by
  unfold spec_IsMatrix
  have hl := h.1
  refine M.Conv_ite (fun q => (M.Conv_ret _).of ?_) (fun q => ?_)
  · simp only [Bool.or_eq_true, decide_eq_true_eq] at q
    have : (decide (1 ≤ a.length) && decide (a.length ≤ 10)) = false := by
      rcases q with q | q
      · rw [decide_eq_false (show ¬ 1 ≤ a.length by omega)]; rfl
      · rw [decide_eq_false (show ¬ a.length ≤ 10 by omega)]; simp
    simp [matB, this]
  · simp only [Bool.or_eq_false_iff, decide_eq_false_iff_not] at q
    obtain ⟨r0, rs, rfl⟩ := List.exists_cons_of_ne_nil (l := a) (by rintro rfl; simp at q)
    refine M.Conv_bind (M.Conv_all (fun r => vecB r && decide (r.length = r0.length)) false (by omega) fun i r hr => ?_) ?_
    · have hrl := h.2 r (List.mem_of_getElem? hr)
      have hg : M.Conv (M.idx (r0 :: rs) i) r := M.Conv_get (by omega) (by simpa using hr)
      refine M.Conv_bind hg (M.Conv_bind (spec_l02Vector_ok (by omega)) (M.Conv_bind (x := !(vecB r && decide (r.length = r0.length))) (M.Conv_ite (fun b => ?_) (fun b => ?_)) ?_))
      · simp only [Bool.not_eq_true'] at b; rw [b]; exact M.Conv_ret _
      · simp only [Bool.not_eq_false'] at b
        rw [b]
        refine M.Conv_bind hg (M.Conv_bind (M.Conv_get (x := r0) (by omega) rfl) ((M.Conv_ret _).of ?_))
        simp only [Bool.true_and, bne]
        congr 1
        rw [Bool.eq_iff_iff]; simp; omega
      · cases (vecB r && decide (r.length = r0.length)) <;> exact M.Conv_ret _
    · have e : matB (r0 :: rs) = (r0 :: rs).all fun r => vecB r && decide (r.length = r0.length) := by
        have L : matB (r0 :: rs) = true ↔ ((1 ≤ (r0 :: rs).length ∧ (r0 :: rs).length ≤ 10) ∧ ((1 ≤ r0.length ∧ r0.length ≤ 10) ∧ ∀ r ∈ r0 :: rs, r.length = r0.length ∧ r.all valB = true)) := by
          have e0 : matB (r0 :: rs) = ((decide (1 ≤ (r0 :: rs).length) && decide ((r0 :: rs).length ≤ 10)) && ((decide (1 ≤ r0.length) && decide (r0.length ≤ 10)) && (r0 :: rs).all fun r => decide (r.length = r0.length) && r.all valB)) := rfl
          rw [e0, Bool.and_eq_true, Bool.and_eq_true, Bool.and_eq_true, Bool.and_eq_true, List.all_eq_true]
          simp only [decide_eq_true_eq, Bool.and_eq_true]
        have R : ∀ r : List Int, (vecB r && decide (r.length = r0.length)) = true ↔ ((1 ≤ r.length ∧ r.length ≤ 10) ∧ r.all valB = true) ∧ r.length = r0.length := by
          intro r
          unfold vecB
          simp only [Bool.and_eq_true, decide_eq_true_eq]
        rw [Bool.eq_iff_iff, List.all_eq_true, L]
        constructor
        · rintro ⟨_, ⟨h1, h2⟩, h3⟩ r hr
          obtain ⟨e1, e2⟩ := h3 r hr
          exact (R r).2 ⟨⟨⟨by omega, by omega⟩, e2⟩, e1⟩
        · intro hh
          obtain ⟨⟨⟨e1, e2⟩, _⟩, _⟩ := (R r0).1 (hh r0 List.mem_cons_self)
          exact ⟨⟨by omega, by omega⟩, ⟨e1, e2⟩, fun r hr => ⟨((R r).1 (hh r hr)).2, ((R r).1 (hh r hr)).1.2⟩⟩
      rw [e]
      cases ((r0 :: rs).all fun r => vecB r && decide (r.length = r0.length)) <;> exact M.Conv_ret _
theorem impl_IsMatrix_ok {a : List (List Int)} (h : smII a) : M.Conv (impl_IsMatrix a) (matB a) := by
  unfold impl_IsMatrix slices_ContainsFunc_row_F_impl_IsMatrix_1 slices_IndexFunc_row_F_impl_IsMatrix_1
  have hl := h.1
  refine M.Conv_bind (impl_within_ok _ _ _) ?_
  have e0 : (decide (1 ≤ (a.length : Int)) && decide ((a.length : Int) ≤ 10)) = (decide (1 ≤ a.length) && decide (a.length ≤ 10)) := by
    rw [decide_eq_decide.2 (show (1 : Int) ≤ a.length ↔ 1 ≤ a.length by omega), decide_eq_decide.2 (show (a.length : Int) ≤ 10 ↔ a.length ≤ 10 by omega)]
  rw [e0]
  cases hb : (decide (1 ≤ a.length) && decide (a.length ≤ 10)) with
  | false => exact M.Conv_bind (x := true) (M.Conv_ret _) ((M.Conv_ret _).of (by simp [matB, hb]))
  | true =>
    simp only [Bool.and_eq_true, decide_eq_true_eq] at hb
    obtain ⟨r0, rs, rfl⟩ := List.exists_cons_of_ne_nil (l := a) (by rintro rfl; simp at hb)
    have e1 : (decide (1 ≤ (r0.length : Int)) && decide ((r0.length : Int) ≤ 10)) = (decide (1 ≤ widthN (r0 :: rs)) && decide (widthN (r0 :: rs) ≤ 10)) := by
      rw [decide_eq_decide.2 (show (1 : Int) ≤ r0.length ↔ 1 ≤ r0.length by omega), decide_eq_decide.2 (show (r0.length : Int) ≤ 10 ↔ r0.length ≤ 10 by omega)]; rfl
    refine M.Conv_bind (x := !(decide (1 ≤ widthN (r0 :: rs)) && decide (widthN (r0 :: rs) ≤ 10))) (M.Conv_ite (fun q => by simp at q) (fun _ => M.Conv_bind (M.Conv_get (x := r0) (by omega) rfl) (M.Conv_bind (impl_within_ok _ _ _) ((M.Conv_ret _).of (by rw [e1]))))) ?_
    have e2 : matB (r0 :: rs) = ((decide (1 ≤ widthN (r0 :: rs)) && decide (widthN (r0 :: rs) ≤ 10)) && (r0 :: rs).all fun r => decide (r.length = widthN (r0 :: rs)) && r.all valB) := by
      simp only [matB, decide_eq_true hb.1, decide_eq_true hb.2, Bool.true_and]
    rw [e2]
    cases (decide (1 ≤ widthN (r0 :: rs)) && decide (widthN (r0 :: rs) ≤ 10)) with
    | false => exact M.Conv_ret _
    | true =>
      refine M.Conv_ite (fun q => by simp at q) (fun _ => ?_)
      refine M.Conv_bind (contains_ok (fun r => !(decide (r.length = widthN (r0 :: rs)) && r.all valB)) (by omega) fun i r hr => ?_) ((M.Conv_ret _).of (by rw [any_not, Bool.true_and]))
      have hrl := h.2 r (List.mem_of_getElem? hr)
      refine M.Conv_bind (M.Conv_get (by omega) (by simpa using hr)) (M.Conv_bind (x := !(decide (r.length = widthN (r0 :: rs)) && r.all valB)) (M.Conv_bind (M.Conv_get (x := r0) (by omega) rfl) (M.Conv_bind (x := !(decide (r.length = widthN (r0 :: rs)) && r.all valB)) (M.Conv_ite (fun q => ?_) (fun q => ?_)) (M.Conv_ret _))) ?_)
      · have : r.length ≠ widthN (r0 :: rs) := fun e => by rw [show r.length = r0.length from e] at q; simp at q
        rw [decide_eq_false this]; exact M.Conv_ret _
      · have : r.length = widthN (r0 :: rs) := Int.ofNat.inj (show (r.length : Int) = r0.length by simpa using q)
        rw [decide_eq_true this]; exact M.Conv_bind (impl_areValues_ok (by omega)) (M.Conv_ret _)
      · cases (decide (r.length = widthN (r0 :: rs)) && r.all valB) <;> exact M.Conv_ret _

def foldI {α σ : Type} (g : Nat → α → σ → σ) : Nat → List α → σ → σ
  | _, [], s => s
  | i, x :: xs, s => foldI g (i + 1) xs (g i x s)
theorem run_foldI {α σ ρ : Type} (g : Nat → α → σ → σ) (fin : σ → ρ) : ∀ (l : List α) (i : Nat) (s : σ), M.run (fun i x s => .inl (g i x s)) fin i l s = fin (foldI g i l s)
  | [], _, _ => rfl
  | x :: xs, i, s => by simp only [M.run, foldI]; exact run_foldI g fin xs (i + 1) (g i x s)
theorem Conv_foldI {α σ : Type} {l : List α} {f : Int → σ → M (σ ⊕ σ)} {s : σ} (g : Nat → α → σ → σ) (I : Nat → σ → Prop) (hl : l.length ≤ 9223372036854775807) (h0 : I 0 s) (H : ∀ (i : Nat) x s, l[i]? = some x → I i s → M.Conv (f i s) (.inl (g i x s)) ∧ I (i + 1) (g i x s)) :
    M.Conv (M.forI 0 (l.length : Int) (fun s => s) f s) (foldI g 0 l s) :=
  (M.Conv_forI (fun i x s => .inl (g i x s)) I hl h0 fun i x s hx hI => ⟨(H i x s hx hI).1, fun s' e => by cases e; exact (H i x s hx hI).2⟩).of (run_foldI g _ l 0 s)
theorem val_cases {x : Int} (h : valB x = true) : x = -1000000000000000 ∨ (-1000000 ≤ x ∧ x ≤ 1000000) := by
  cases hb : (x == (-1000000000000000)) with
  | true => left; simpa using hb
  | false => right; exact finB_bd (val_ne h hb)
theorem Mat.get {a : List (List Int)} {w i : Nat} {row : List Int} (hm : Mat a w) (h : a[i]? = some row) {j : Nat} (hj : j < w) : M.Conv (M.idx row (j : Int)) ((row[j]?).getD 0) ∧ valB ((row[j]?).getD 0) = true := by
  obtain ⟨e1, e2⟩ := hm.row row (List.mem_of_getElem? h)
  rw [List.getElem?_eq_getElem (by omega)]
  exact ⟨M.Conv_get (by omega) (by simp [show j < row.length by omega]), e2 _ (List.getElem_mem _)⟩
theorem get_row {a : List (List Int)} {i : Nat} {row : List Int} (h : a[i]? = some row) : M.Conv (M.idx a (i : Int)) row := M.Conv_get (by omega) (by simpa using h)
def dotL (x row : List Int) : Int := foldI (fun j v s => mx s (timesI v ((x[j]?).getD 0))) 0 row (-1000000000000000)
theorem spec_l02Apply_ok {a : List (List Int)} {x : List Int} {w : Nat} (hm : Mat a w) (hx : x.length = w) : M.Conv (spec_l02Apply a x) (a.map (dotL x)) := by
  unfold spec_l02Apply
  have hrows := hm.rows
  have hcols := hm.cols
  refine M.Conv_bind ((M.Conv_forI (fun _ r s => .inl (s ++ [dotL x r])) (fun i s => s.length = i) (by omega) rfl fun i r s hr hs => ?_).of (?_ : _ = a.map (dotL x))) (M.Conv_ret _)
  · have hi := (List.getElem?_eq_some_iff.1 hr).1
    obtain ⟨hrl, hrv⟩ := hm.row r (List.mem_of_getElem? hr)
    refine ⟨M.Conv_bind (x := dotL x r) ?_ (M.Conv_bind (M.Conv_app (by simp; omega)) (M.Conv_ret _)), fun s' e => by cases e; simp [hs]⟩
    rw [show (x.length : Int) = (r.length : Int) by omega]
    refine Conv_foldI (fun j v s => mx s (timesI v ((x[j]?).getD 0))) (fun _ _ => True) (by omega) trivial fun j v s hv _ => ⟨?_, trivial⟩
    have hj := (List.getElem?_eq_some_iff.1 hv).1
    refine M.Conv_bind (get_row hr) (M.Conv_bind (M.Conv_get (x := v) (by omega) (by simpa using hv)) (M.Conv_bind (M.Conv_get (x := (x[j]?).getD 0) (by omega) (by simp [show j < x.length by omega])) (M.Conv_bind (spec_l01Times_ok _ _) (M.Conv_ret _))))
  · have key : ∀ (xs : List (List Int)) (i : Nat) (s : List Int), M.run (ρ := List Int) (fun _ r s => .inl (s ++ [dotL x r])) (fun s => s) i xs s = s ++ xs.map (dotL x) := by
      intro xs
      induction xs with
      | nil => intro i s; simp [M.run]
      | cons x xs ih => intro i s; simp [M.run, ih]
    simpa using key a 0 []
theorem impl_timesVector_ok {a : List (List Int)} {x : List Int} {w : Nat} (hm : Mat a w) (hx : x.length = w) : M.Conv (impl_timesVector a x) (a.map (dotL x)) := by
  unfold impl_timesVector
  have hrows := hm.rows
  have hcols := hm.cols
  refine M.Conv_bind (M.Conv_make (by omega) (by omega)) ?_
  rw [Int.toNat_natCast]
  refine M.Conv_bind ((M.Conv_fill (l := a) (fun _ r => dotL x r) 0 (by omega) fun i r s hr hs => ?_).of (?_ : _ = a.map (dotL x))) (M.Conv_ret _)
  · have hi := (List.getElem?_eq_some_iff.1 hr).1
    obtain ⟨hrl, hrv⟩ := hm.row r (List.mem_of_getElem? hr)
    have his : i < s.length := by omega
    refine M.Conv_bind (get_row hr) (M.Conv_bind (M.Conv_get (x := s[i]) (by omega) (by simp [his])) (M.Conv_bind (M.Conv_upd his) (M.Conv_bind (x := s.set i (dotL x r)) ?_ (M.Conv_ret _))))
    refine (M.Conv_forI (l := r) (fun j v t => .inl (s.set i (mx ((t[i]?).getD 0) (timesI v ((x[j]?).getD 0))))) (fun _ t => ∃ q, t = s.set i q) (by omega) ⟨_, rfl⟩ fun j v t hv hq => ?_).of ?_
    · obtain ⟨q, hq⟩ := hq
      subst hq
      have hj := (List.getElem?_eq_some_iff.1 hv).1
      have hg : M.Conv (M.idx (s.set i q) (i : Int)) q := M.Conv_get (by omega) (by simp [his])
      have hq : ((s.set i q)[i]?).getD 0 = q := by simp [his]
      refine ⟨?_, fun s' e => by cases e; exact ⟨_, rfl⟩⟩
      rw [hq]
      refine M.Conv_bind (M.Conv_get (x := v) (by omega) (by simpa using hv)) (M.Conv_bind hg (M.Conv_bind (M.Conv_get (x := (x[j]?).getD 0) (by omega) (by simp [show j < x.length by omega])) (M.Conv_bind (impl_times_ok _ _) (M.Conv_bind hg (M.Conv_bind (M.Conv_upd (by simpa using his)) ((M.Conv_ret _).of (by rw [List.set_set])))))))
    have run : ∀ (l : List Int) (j : Nat) (q : Int), M.run (ρ := List Int) (fun j v t => .inl (s.set i (mx ((t[i]?).getD 0) (timesI v ((x[j]?).getD 0))))) (fun s => s) j l (s.set i q) = s.set i (foldI (fun j v s => mx s (timesI v ((x[j]?).getD 0))) j l q) := by
      intro l
      induction l with
      | nil => intro j q; rfl
      | cons v vs ih =>
        intro j q
        have hq : ((s.set i q)[i]?).getD 0 = q := by simp [his]
        simp only [M.run, foldI, hq]
        exact ih (j + 1) _
    exact run r 0 _
  · exact M.zipIdx_map_fst (g := fun r => dotL x r)
theorem Conv_forV {σ : Type} {n : Nat} {f : Int → σ → M (σ ⊕ σ)} (val : Nat → σ) (hn : n ≤ 9223372036854775807) (h : ∀ i, i < n → M.Conv (f i (val i)) (.inl (val (i + 1)))) : M.Conv (M.forI 0 (n : Int) (fun s => s) f (val 0)) (val n) := by
  have := M.Conv_forI (l := List.range n) (f := f) (fin := fun s => s) (s := val 0) (ρ := σ) (fun i _ _ => .inl (val (i + 1))) (fun i s => s = val i) (by simpa using hn) rfl (fun i x s hx hs => by
    subst hs
    have hi := (List.getElem?_eq_some_iff.1 hx).1
    exact ⟨h i (by simpa using hi), fun s' e => by cases e; rfl⟩)
  simp only [List.length_range] at this
  refine this.of ?_
  have run : ∀ (m i : Nat), M.run (σ := σ) (ρ := σ) (fun i (_ : Nat) _ => .inl (val (i + 1))) (fun s => s) i (List.range m) (val i) = val (i + m) := by
    have g : ∀ (l : List Nat) (i : Nat), M.run (σ := σ) (ρ := σ) (fun i (_ : Nat) _ => .inl (val (i + 1))) (fun s => s) i l (val i) = val (i + l.length) := by
      intro l
      induction l with
      | nil => intro i; rfl
      | cons x xs ih => intro i; simp only [M.run, List.length_cons]; rw [ih (i + 1)]; congr 1; omega
    intro m i
    rw [g, List.length_range]
  simpa using run n 0
def sqB (a : List (List Int)) : Bool := matB a && decide (a.length = widthN a)
theorem head_of_mat {a : List (List Int)} (h : matB a = true) : ∃ r, a[0]? = some r ∧ r.length = widthN a := (matB_mat h).head
theorem spec_l02Square_ok {a : List (List Int)} (h : smII a) : M.Conv (spec_l02Square a) (sqB a) := by
  refine M.Conv_bind (spec_IsMatrix_ok h) (M.Conv_bind (x := sqB a) (M.Conv_ite (fun q => ?_) (fun q => (M.Conv_ret _).of (by simp [sqB, q]))) (M.Conv_ret _))
  obtain ⟨r, h0, hl⟩ := head_of_mat q
  refine M.Conv_bind (get_row h0) ((M.Conv_ret _).of ?_)
  rw [hl, sqB, q, Bool.true_and]
  rw [Bool.eq_iff_iff]; simp; omega
theorem impl_isSquare_ok {a : List (List Int)} (h : smII a) : M.Conv (impl_isSquare a) (sqB a) := by
  refine M.Conv_bind (impl_IsMatrix_ok h) (M.Conv_bind (x := sqB a) (M.Conv_ite (fun q => ?_) (fun q => (M.Conv_ret _).of (by simp [sqB, q]))) (M.Conv_ret _))
  obtain ⟨r, h0, hl⟩ := head_of_mat q
  refine M.Conv_bind (get_row h0) ((M.Conv_ret _).of ?_)
  rw [hl, sqB, q, Bool.true_and]
  rw [Bool.eq_iff_iff]; simp; omega
theorem sq_mat {a : List (List Int)} (h : sqB a = true) : Mat a a.length := by
  simp only [sqB, Bool.and_eq_true, decide_eq_true_eq] at h
  have := matB_mat h.1
  rwa [← h.2] at this
def ConvL {σ ρ : Type} (f : σ → M (σ ⊕ ρ)) (s : σ) (r : ρ) : Prop := ∃ N m0, ∀ n, N ≤ n → ∀ m, m0 ≤ m → M.loopN f n m s = some r
theorem ConvL.conv {σ ρ : Type} {f : σ → M (σ ⊕ ρ)} {s : σ} {r : ρ} (h : ConvL f s r) : M.Conv (M.loop f s) r := by
  obtain ⟨N, m0, h⟩ := h
  exact ⟨max N m0, fun n hn => h n (by omega) n (by omega)⟩
theorem ConvL.step {σ ρ : Type} {f : σ → M (σ ⊕ ρ)} {s s' : σ} {r : ρ} (h1 : M.Conv (f s) (.inl s')) (h : ConvL f s' r) : ConvL f s r := by
  obtain ⟨N, h1⟩ := h1
  obtain ⟨N', m0, h⟩ := h
  refine ⟨max N N', m0 + 1, fun n hn m hm => ?_⟩
  obtain ⟨m, rfl⟩ : ∃ q, m = q + 1 := ⟨m - 1, by omega⟩
  simp only [M.loopN, h1 n (by omega)]
  exact h n (by omega) m (by omega)
theorem ConvL.stop {σ ρ : Type} {f : σ → M (σ ⊕ ρ)} {s : σ} {r : ρ} (h1 : M.Conv (f s) (.inr r)) : ConvL f s r := by
  obtain ⟨N, h1⟩ := h1
  refine ⟨N, 1, fun n hn m hm => ?_⟩
  obtain ⟨m, rfl⟩ : ∃ q, m = q + 1 := ⟨m - 1, by omega⟩
  simp only [M.loopN, h1 n hn]
def gcdF (s1 : Int × Int) : M ((Int × Int) ⊕ (Int × Int)) := M.ite (decide (0 < s1.2)) (M.bind (M.guard (s1.2 != 0)) (fun _ => M.ret (.inl (s1.2, (s1.1.tmod s1.2))))) (M.ret (.inr (s1.1, s1.2)))
def entA (a : List (List Int)) (i j : Nat) : Int := (((a[i]?).getD [])[j]?).getD 0
theorem ent_val {a : List (List Int)} {n i j : Nat} (hm : Mat a n) (hi : i < a.length) (hj : j < n) : M.Conv (M.idx a (i : Int)) a[i] ∧ M.Conv (M.idx a[i] (j : Int)) (entA a i j) ∧ valB (entA a i j) = true := by
  have hr : a[i]? = some a[i] := List.getElem?_eq_getElem hi
  obtain ⟨g1, g2⟩ := hm.get hr hj
  have e : entA a i j = (a[i][j]?).getD 0 := by simp only [entA, hr, Option.getD_some]
  rw [e]
  exact ⟨get_row hr, g1, g2⟩
theorem conv_up {σ ρ : Type} {f : σ → M (σ ⊕ ρ)} {r : ρ} (st : Nat → σ) {n k0 : Nat} (hk : k0 ≤ n) (h : ∀ k, k0 ≤ k → k < n → M.Conv (f (st k)) (.inl (st (k + 1)))) (hs : M.Conv (f (st n)) (.inr r)) : M.Conv (M.loop f (st k0)) r := by
  have H : ∀ (d k : Nat), k0 ≤ k → k + d = n → ConvL f (st k) r := by
    intro d
    induction d with
    | zero => intro k _ e; obtain rfl : k = n := by omega
              exact ConvL.stop hs
    | succ d ih => intro k h1 e; exact ConvL.step (h k h1 (by omega)) (ih (k + 1) (by omega) (by omega))
  exact (H (n - k0) k0 (Nat.le_refl _) (by omega)).conv
theorem conv_up0 {σ ρ : Type} {f : σ → M (σ ⊕ ρ)} {r : ρ} {s0 : σ} (st : Nat → σ) {n k0 : Nat} (e : s0 = st k0) (hk : k0 ≤ n) (h : ∀ k, k0 ≤ k → k < n → M.Conv (f (st k)) (.inl (st (k + 1)))) (hs : M.Conv (f (st n)) (.inr r)) : M.Conv (M.loop f s0) r := by
  subst e; exact conv_up st hk h hs

def tab {α : Type} (n : Nat) (h : Nat → α) : List α := (List.range n).map h
theorem tab_len {α : Type} (n : Nat) (h : Nat → α) : (tab n h).length = n := by simp [tab]
theorem tab_get {α : Type} {n i : Nat} {h : Nat → α} (hi : i < n) : (tab n h)[i]? = some (h i) := by simp [tab, List.getElem?_range hi]
theorem tab_none {α : Type} {n i : Nat} {h : Nat → α} (hi : n ≤ i) : (tab n h)[i]? = none := List.getElem?_eq_none (by rw [tab_len]; exact hi)
theorem tab_ext {α : Type} {n : Nat} {h : Nat → α} {l : List α} (hl : l.length = n) (e : ∀ i, i < n → l[i]? = some (h i)) : l = tab n h := by
  apply List.ext_getElem?
  intro i
  by_cases hi : i < n
  · rw [e i hi, tab_get hi]
  · rw [tab_none (by omega), List.getElem?_eq_none (by omega)]
theorem tab_congr {α : Type} {n : Nat} {h g : Nat → α} (e : ∀ i, i < n → h i = g i) : tab n h = tab n g := by
  refine tab_ext (tab_len _ _) fun i hi => ?_
  rw [tab_get hi, e i hi]
theorem tab_set {α : Type} {n i : Nat} {h g : Nat → α} {v : α} (hv : v = g i) (e : ∀ p, p < n → p ≠ i → h p = g p) : (tab n h).set i v = tab n g := by
  refine tab_ext (by rw [List.length_set, tab_len]) fun p hp => ?_
  rw [List.getElem?_set]
  by_cases q : i = p
  · subst q; rw [if_pos rfl, if_pos (by rw [tab_len]; exact hp), hv]
  · rw [if_neg q, tab_get hp, e p hp (fun c => q c.symm)]
theorem tab_rep {α : Type} (n : Nat) (z : α) : List.replicate n z = tab n (fun _ => z) := tab_ext (by simp) fun i hi => by rw [List.getElem?_replicate, if_pos hi]
theorem tab_snoc {α : Type} (n : Nat) (h : Nat → α) : tab n h ++ [h n] = tab (n + 1) h := by simp [tab, List.range_succ]
theorem idx_tab {α : Type} {n i : Nat} {h : Nat → α} (hi : i < n) : M.Conv (M.idx (tab n h) (i : Int)) (h i) := M.Conv_idx (tab_get hi)
theorem upd_tab {α : Type} {n i : Nat} {h g : Nat → α} {v : α} (hi : i < n) (hv : v = g i) (e : ∀ p, p < n → p ≠ i → h p = g p) : M.Conv (M.upd (tab n h) (i : Int) v) (tab n g) :=
  (M.Conv_upd (by rw [tab_len]; exact hi)).of (tab_set hv e)
def matF (m n : Nat) (f : Nat → Nat → Int) : List (List Int) := tab m fun i => tab n (f i)
theorem matF_len (m n : Nat) (f : Nat → Nat → Int) : (matF m n f).length = m := tab_len _ _
theorem matF_congr {m n : Nat} {f g : Nat → Nat → Int} (e : ∀ i j, i < m → j < n → f i j = g i j) : matF m n f = matF m n g := tab_congr fun i hi => tab_congr fun j hj => e i j hi hj
structure Shp (a : List (List Int)) (w : Nat) : Prop where
  rows : 1 ≤ a.length ∧ a.length ≤ 10
  cols : 1 ≤ w ∧ w ≤ 10
  row : ∀ r ∈ a, r.length = w
theorem Mat.shp {a : List (List Int)} {w : Nat} (hm : Mat a w) : Shp a w := ⟨hm.rows, hm.cols, fun r hr => (hm.row r hr).1⟩
theorem mat_eq {a : List (List Int)} {w : Nat} (hm : Shp a w) : a = matF a.length w (entA a) := by
  refine tab_ext rfl fun i hi => ?_
  have hr : a[i]? = some a[i] := List.getElem?_eq_getElem hi
  rw [hr]
  have hl := hm.row _ (List.mem_of_getElem? hr)
  congr 1
  refine tab_ext hl fun j hj => ?_
  have : a[i][j]? = some (a[i][j]'(by omega)) := List.getElem?_eq_getElem _
  rw [this]
  simp only [entA, hr, Option.getD_some, this]
theorem entA_matF {m n i j : Nat} {f : Nat → Nat → Int} (hi : i < m) (hj : j < n) : entA (matF m n f) i j = f i j := by
  simp only [entA, matF, tab_get hi, Option.getD_some, tab_get hj]
theorem mat_of {m n : Nat} {f : Nat → Nat → Int} (h1 : 1 ≤ m ∧ m ≤ 10) (h2 : 1 ≤ n ∧ n ≤ 10) (hv : ∀ i j, i < m → j < n → valB (f i j) = true) : Mat (matF m n f) n := by
  refine ⟨by rw [matF_len]; exact h1, h2, fun r hr => ?_⟩
  simp only [matF, tab, List.mem_map, List.mem_range] at hr
  obtain ⟨i, hi, rfl⟩ := hr
  refine ⟨by simp, fun x hx => ?_⟩
  simp only [List.mem_map, List.mem_range] at hx
  obtain ⟨j, hj, rfl⟩ := hx
  exact hv i j hi hj
theorem shp_of {m n : Nat} {f : Nat → Nat → Int} (h1 : 1 ≤ m ∧ m ≤ 10) (h2 : 1 ≤ n ∧ n ≤ 10) : Shp (matF m n f) n := by
  refine ⟨by rw [matF_len]; exact h1, h2, fun r hr => ?_⟩
  simp only [matF, tab, List.mem_map, List.mem_range] at hr
  obtain ⟨i, hi, rfl⟩ := hr
  simp
theorem ent_read {a : List (List Int)} {w i j : Nat} (hm : Shp a w) (hi : i < a.length) (hj : j < w) : ∃ r, M.Conv (M.idx a (i : Int)) r ∧ r.length = w ∧ M.Conv (M.idx r (j : Int)) (entA a i j) := by
  have hr : a[i]? = some a[i] := List.getElem?_eq_getElem hi
  have hl := hm.row _ (List.mem_of_getElem? hr)
  have h2 : a[i][j]? = some (a[i][j]'(by omega)) := List.getElem?_eq_getElem _
  refine ⟨_, get_row hr, hl, (M.Conv_idx h2).of ?_⟩
  simp only [entA, hr, Option.getD_some, h2]
/-- a matrix filled by a function of its places -/
theorem matrixBy_ok {m n : Nat} (F : Int → Int → M Int) (g : Nat → Nat → Int) (hm : m ≤ 1048576) (hn : n ≤ 1048576) (hF : ∀ i j : Nat, i < m → j < n → M.Conv (F i j) (g i j)) :
    M.Conv (M.bind (M.make (m : Int) []) (fun l1 => M.bind (M.forI 0 (l1.length : Int) (fun s => s) (fun i1 => (fun (s1 : (List (List Int))) => M.bind (M.make (n : Int) 0) (fun l2 => M.bind (M.idx s1 i1) (fun x2 => M.bind (M.upd s1 i1 l2) (fun l3 => M.bind (M.idx l3 i1) (fun x3 => M.bind (M.forI 0 (x3.length : Int) (fun s => s) (fun i2 => (fun (s2 : (List (List Int))) => M.bind (M.idx s2 i1) (fun x5 => M.bind (F i1 i2) (fun x6 => M.bind (M.idx x5 i2) (fun x7 => M.bind (M.upd x5 i2 x6) (fun l4 => M.ret (.inl (s2.set i1.toNat l4)))))))) l3) (fun x4 => M.ret (.inl x4)))))))) l1) (fun x1 => M.ret x1))) (matF m n g) := by
  have e0 : List.replicate m ([] : List Int) = tab m (fun p => bif decide (p < 0) then tab n (g p) else []) := by
    rw [tab_rep]; exact tab_congr fun i _ => by simp
  refine M.Conv_bind ((M.Conv_make (by omega) (by omega)).of (r' := tab m (fun p => bif decide (p < 0) then tab n (g p) else [])) (by rw [Int.toNat_natCast, e0])) ?_
  rw [tab_len]
  refine M.Conv_bind (x := matF m n g) ((Conv_forV (fun i => tab m (fun p => bif decide (p < i) then tab n (g p) else [])) (by omega) fun i hi => ?_).of (tab_congr fun p hp => by rw [decide_eq_true hp]; rfl)) (M.Conv_ret _)
  refine M.Conv_bind ((M.Conv_make (by omega) (by omega)).of (r' := tab n (fun _ => 0)) (by rw [Int.toNat_natCast, tab_rep])) ?_
  refine M.Conv_bind (idx_tab hi) (M.Conv_bind (x := tab m (fun p => bif p == i then tab n (fun q => bif decide (q < 0) then g i q else 0) else bif decide (p < i) then tab n (g p) else [])) (upd_tab hi ?_ ?_) ?_)
  · simp
  · intro p hp hne
    rw [show (p == i) = false by simpa using hne]; rfl
  · refine M.Conv_bind (idx_tab hi) ?_
    rw [beq_self_eq_true, cond_true, tab_len]
    refine M.Conv_bind (x := tab m (fun p => bif decide (p < i + 1) then tab n (g p) else [])) ((Conv_forV (fun j => tab m (fun p => bif p == i then tab n (fun q => bif decide (q < j) then g i q else 0) else bif decide (p < i) then tab n (g p) else [])) (by omega) fun j hj => ?_).of ?_) (M.Conv_ret _)
    · refine M.Conv_bind (idx_tab hi) ?_
      rw [beq_self_eq_true, cond_true]
      refine M.Conv_bind (hF i j hi hj) (M.Conv_bind (idx_tab hj) (M.Conv_bind (x := tab n (fun q => bif decide (q < j + 1) then g i q else 0)) (upd_tab hj ?_ ?_) ((M.Conv_ret _).of (congrArg Sum.inl ?_))))
      · simp
      · intro q hq hne
        congr 1
        rw [Bool.eq_iff_iff]; simp; omega
      · rw [Int.toNat_natCast]
        refine tab_set ?_ ?_
        · simp
        · intro p hp hne
          rw [show (p == i) = false by simpa using hne]; rfl
    · refine tab_congr fun p hp => ?_
      by_cases e : p = i
      · subst e
        rw [beq_self_eq_true, cond_true, decide_eq_true (by omega)]
        exact tab_congr fun q hq => by rw [decide_eq_true hq]; rfl
      · rw [show (p == i) = false by simpa using e]
        simp only [cond_false]
        congr 1
        rw [Bool.eq_iff_iff]; simp; omega
theorem spec_l02Bottom_ok {m n : Nat} (hm : m ≤ 1048576) (hn : n ≤ 1048576) : M.Conv (spec_l02Bottom (m : Int) (n : Int)) (matF m n fun _ _ => -1000000000000000) := by
  unfold spec_l02Bottom
  refine M.Conv_bind (Conv_forV (fun i => tab i fun _ => tab n fun _ => (-1000000000000000 : Int)) (by omega) fun i hi => ?_) (M.Conv_ret _)
  refine M.Conv_bind (Conv_forV (fun j => tab j fun _ => (-1000000000000000 : Int)) (by omega) fun j hj => ?_) ?_
  · exact M.Conv_bind (M.Conv_app (by simp [tab_len]; omega)) ((M.Conv_ret _).of (congrArg Sum.inl (tab_snoc _ _)))
  · exact M.Conv_bind (M.Conv_app (by simp [tab_len]; omega)) ((M.Conv_ret _).of (congrArg Sum.inl (tab_snoc i _)))
/-- one entry set -/
theorem matF_set {m n i j : Nat} {f g : Nat → Nat → Int} (e : ∀ p q, p < m → q < n → ¬(p = i ∧ q = j) → f p q = g p q) : (matF m n f).set i ((tab n (f i)).set j (g i j)) = matF m n g := by
  by_cases hi : i < m
  · refine tab_set (tab_set rfl fun q hq hne => e i q hi hq (by omega)) fun p hp hne => tab_congr fun q hq => e p q hp hq (by omega)
  · rw [List.set_eq_of_length_le (by rw [matF_len]; omega)]
    exact matF_congr fun p q hp hq => e p q hp hq (by omega)
/-- filled row by row: everything before (i, j) is new -/
def part (g z : Nat → Nat → Int) (i j p q : Nat) : Int := bif decide (p < i) || (decide (p = i) && decide (q < j)) then g p q else z p q
theorem part_step {m n i j : Nat} {g z : Nat → Nat → Int} : (matF m n (part g z i j)).set i ((tab n (part g z i j i)).set j (g i j)) = matF m n (part g z i (j + 1)) := by
  rw [show g i j = part g z i (j + 1) i j by simp [part]]
  refine matF_set fun p q _ _ h => ?_
  unfold part
  congr 1
  rw [Bool.eq_iff_iff]; simp; omega
theorem part_row {m n i : Nat} {g z : Nat → Nat → Int} : matF m n (part g z i n) = matF m n (part g z (i + 1) 0) := by
  refine matF_congr fun p q _ hq => ?_
  unfold part
  congr 1
  rw [Bool.eq_iff_iff]; simp; omega
theorem part_zero {m n : Nat} {g z : Nat → Nat → Int} : matF m n (part g z 0 0) = matF m n z := matF_congr fun p q _ _ => by simp [part]
theorem part_all {m n : Nat} {g z : Nat → Nat → Int} : matF m n (part g z m 0) = matF m n g := matF_congr fun p q hp _ => by simp [part, hp]
theorem Shp.sm {a : List (List Int)} {w : Nat} (h : Shp a w) : smII a := ⟨by have := h.rows; omega, fun r hr => by have := h.row r hr; have := h.cols; omega⟩
def colL (b : List (List Int)) (i : Nat) : List Int := tab b.length fun j => entA b j i
theorem Conv_or {b v : Bool} {m : M Bool} (h : b = false → M.Conv m v) : M.Conv (M.ite b (M.ret true) m) (b || v) := by
  cases b with
  | true => exact M.Conv_ite (fun _ => M.Conv_ret _) (fun t => by simp at t)
  | false => exact M.Conv_ite (fun t => by simp at t) (fun _ => h rfl)
theorem Conv_check {ρ : Type} {n lo : Nat} {f : Int → Unit → M (Unit ⊕ (Unit ⊕ ρ))} (P : Nat → Prop) (v : ρ) (hn : n ≤ 9223372036854775807)
    (h : ∀ i : Nat, lo ≤ i → i < n → (P i ∧ M.Conv (f i ()) (.inl ())) ∨ (¬ P i ∧ M.Conv (f i ()) (.inr (.inr v)))) :
    ((∀ i, lo ≤ i → i < n → P i) ∧ M.Conv (M.forI (lo : Int) (n : Int) (fun s => .inl s) f ()) (.inl ())) ∨ ((∃ i, lo ≤ i ∧ i < n ∧ ¬ P i) ∧ M.Conv (M.forI (lo : Int) (n : Int) (fun s => .inl s) f ()) (.inr v)) := by
  have H : M.TC (M.forI (lo : Int) (n : Int) (fun s => .inl s) f ()) (fun r => ((∀ i, lo ≤ i → i < n → P i) ∧ r = .inl ()) ∨ ((∃ i, lo ≤ i ∧ i < n ∧ ¬ P i) ∧ r = .inr v)) := by
    refine M.TC_for (fun i _ => ∀ k : Nat, lo ≤ k → (k : Int) < i → P k) () (by omega) (by omega) (fun k h1 h2 => by omega) (fun i s h1 h2 hI => ?_) (fun i s hi hI => ?_)
    · obtain ⟨k, rfl⟩ : ∃ k : Nat, i = (k : Int) := ⟨i.toNat, by omega⟩
      rcases h k (by omega) (by omega) with ⟨hp, hc⟩ | ⟨hp, hc⟩
      · refine hc.tc (.inl ⟨(), rfl, fun q h3 h4 => ?_⟩)
        by_cases e : q = k
        · subst e; exact hp
        · exact hI q h3 (by omega)
      · exact hc.tc (.inr ⟨.inr v, rfl, .inr ⟨⟨k, by omega, by omega, hp⟩, rfl⟩⟩)
    · rcases hi with rfl | ⟨rfl, hle⟩
      · exact .inl ⟨fun q h1 h2 => hI q h1 (by omega), rfl⟩
      · exact .inl ⟨fun q h1 h2 => by omega, rfl⟩
  obtain ⟨r, hr, ⟨h1, rfl⟩ | ⟨h1, rfl⟩⟩ := H
  · exact .inl ⟨h1, hr⟩
  · exact .inr ⟨h1, hr⟩
def nd (l : List Int) (i : Nat) : Int := (l[i]?).getD 0
theorem nd_read {l : List Int} {i : Nat} (h : i < l.length) : M.Conv (M.idx l (i : Int)) (nd l i) := by
  have : l[i]? = some (l[i]'h) := List.getElem?_eq_getElem _
  refine M.Conv_idx ?_
  unfold nd; rw [this]; rfl
theorem Conv_forK {σ ρ : Type} {n k : Nat} {f : Int → σ → M (σ ⊕ ρ)} {fin : σ → ρ} {r : ρ} (st : Nat → σ) (hn : n ≤ 9223372036854775807) (hk : k ≤ n) (h : ∀ i, i < k → M.Conv (f i (st i)) (.inl (st (i + 1))))
    (hs : k < n → M.Conv (f k (st k)) (.inr r)) (he : k = n → fin (st k) = r) : M.Conv (M.forI 0 (n : Int) fin f (st 0)) r := by
  apply M.TC.conv
  refine M.TC_for (fun i s => ∃ q : Nat, i = (q : Int) ∧ q ≤ k ∧ s = st q) _ (by omega) (by omega) ⟨0, rfl, by omega, rfl⟩ (fun i s h1 h2 hI => ?_) (fun i s hi hI => ?_)
  · obtain ⟨q, rfl, hq, rfl⟩ := hI
    by_cases e : q < k
    · exact (h q e).tc (.inl ⟨_, rfl, q + 1, by omega, by omega, rfl⟩)
    · obtain rfl : q = k := by omega
      exact (hs (by omega)).tc (.inr ⟨_, rfl, rfl⟩)
  · obtain ⟨q, rfl, hq, rfl⟩ := hI
    obtain rfl : q = k := by omega
    exact he (by omega)
theorem cmp_ok (x y : Int) : M.Conv (cmp_Compare_i x y) (bif decide (x < y) then -1 else bif decide (y < x) then 1 else 0) := by
  unfold cmp_Compare_i
  have hn : ∀ z : Int, M.Conv (cmp_isNaN_i z) false := fun z => (M.Conv_ret _).of (by simp)
  exact M.Conv_bind (hn x) (M.Conv_bind (hn y) (M.Conv_ite (fun t => by cases t) (fun _ => M.Conv_ite (fun t => by cases t) (fun _ => M.Conv_ite2 (fun _ => M.Conv_ret _) (fun _ => M.Conv_ite2 (fun _ => M.Conv_ret _) (fun _ => M.Conv_ret _))))))
structure ByC (code : List Int) : Prop where
  len : code.length ≤ 4096
  byte : ∀ x ∈ code, 0 ≤ x ∧ x ≤ 255
structure Src (code : List Int) (s : TL01source) : Prop where
  code_ : s.code = code
  lo : 0 ≤ s.at_
  hi : s.at_ ≤ code.length
  seed : 0 ≤ s.seed ∧ s.seed < 2147483647
theorem Src.mk' {code : List Int} {s : TL01source} {c : List Int} (h : Src code s) (hc : c = code) : Src code ⟨c, s.at_, s.seed⟩ := ⟨hc, h.lo, h.hi, h.seed⟩
theorem tmod_in {x n : Int} (hx : 0 ≤ x) (hn : 0 < n) : 0 ≤ x.tmod n ∧ x.tmod n < n := ⟨Int.tmod_nonneg n hx, Int.tmod_lt_of_pos x hn⟩
theorem tdiv_in {x : Int} (hx : 0 ≤ x) (h : x < 2147483647) : 0 ≤ x.tdiv 31 ∧ x.tdiv 31 < 2147483647 := by
  rw [Int.tdiv_eq_ediv_of_nonneg hx]; omega
theorem from_ok {code : List Int} (hc : ByC code) : M.TC (spec_l01From code) (Src code) := by
  have hl := hc.len
  unfold spec_l01From
  refine M.TC_bind (Mid := fun x => 0 ≤ x.1 ∧ x.1 < 2147483647) (M.TC_loop (fun (s : Int × Int) => (0 ≤ s.1 ∧ s.1 < 2147483647) ∧ 0 ≤ s.2 ∧ s.2 ≤ 4096) (fun s => (4096 - s.2).toNat) (61403, 0) (by simp) fun s hs => ?_) fun x hx => M.TC_ret ⟨rfl, by simp, by simp, hx⟩
  refine M.TC_ite (fun t => ?_) (fun _ => M.TC_ret (.inr ⟨_, rfl, hs.1⟩))
  simp only [Bool.and_eq_true, decide_eq_true_eq] at t
  refine M.TC_bind (Mid := fun x => 0 ≤ x ∧ x ≤ 255) (M.TC_idx hs.2.1 t.1 fun x hx => hc.byte x (List.mem_of_getElem? hx)) fun x hx => M.TC_ret (.inl ⟨_, rfl, ?_, ?_⟩)
  · have e1 : w64 (s.1 * 67) = s.1 * 67 := w64_eq _ (by omega)
    have e2 : w64 x = x := w64_eq _ (by omega)
    have e3 : w64 (s.1 * 67 + x) = s.1 * 67 + x := w64_eq _ (by omega)
    have e4 : w64 (s.2 + 1) = s.2 + 1 := w64_eq _ (by omega)
    simp only [e1, e2, e3, e4]
    exact ⟨tmod_in (by omega) (by omega), by omega, by omega⟩
  · simp only
    rw [w64_eq _ (by omega)]; omega
theorem next_ok {code : List Int} (hc : ByC code) {s : TL01source} (hs : Src code s) (n : Int) (hn : n ≤ 1000000) : M.TC (spec_l01Next s n) (fun r => Src code r.2 ∧ 0 ≤ r.1 ∧ (r.1 < n ∨ (n ≤ 1 ∧ r.1 = 0))) := by
  have hl := hc.len
  obtain ⟨h1, h2, h3, h4⟩ := hs
  unfold spec_l01Next
  refine M.TC_ite (fun t => M.TC_ret ⟨⟨h1, h2, h3, h4⟩, by simp, .inr ⟨by simpa using t, rfl⟩⟩) (fun t => ?_)
  have t : 1 < n := by simpa using t
  have e1 : w64 (s.seed * 48271) = s.seed * 48271 := w64_eq _ (by omega)
  have e2 : w64 (s.seed * 48271 + 59) = s.seed * 48271 + 59 := w64_eq _ (by omega)
  have hsd := tmod_in (x := s.seed * 48271 + 59) (n := 2147483647) (by omega) (by omega)
  simp only [e1, e2]
  generalize (s.seed * 48271 + 59).tmod 2147483647 = sd at hsd ⊢
  have hq := tdiv_in hsd.1 hsd.2
  generalize sd.tdiv 31 = q at hq ⊢
  have e3 : w64 q = q := w64_eq _ (by omega)
  have e4 : w64 (s.at_ + 1) = s.at_ + 1 := w64_eq _ (by omega)
  simp only [e3, e4, h1]
  refine M.TC_bind (Mid := fun (x : Int × Int) => 0 ≤ x.1 ∧ 0 ≤ x.2 ∧ x.2 ≤ code.length) ?_ (fun x hx => M.TC_bind (M.TC_guard (Post := fun _ => True) (by simp; omega) trivial) fun _ _ => M.TC_ret ⟨⟨rfl, hx.2.1, hx.2.2, hsd⟩, (tmod_in hx.1 (by omega)).1, .inl (tmod_in hx.1 (by omega)).2⟩)
  refine M.TC_ite (fun t => ?_) (fun _ => M.TC_ret ⟨hq.1, h2, h3⟩)
  have t : s.at_ < code.length := by simpa using t
  refine M.TC_bind (Mid := fun x => 0 ≤ x ∧ x ≤ 255) (M.TC_idx h2 t fun x hx => hc.byte x (List.mem_of_getElem? hx)) fun x hx => ?_
  refine M.TC_ite (fun _ => ?_) (fun _ => M.TC_ret ⟨?_, by simp only; omega, by simp only; omega⟩)
  · have e5 : w64 (s.at_ + 1 - 1) = s.at_ := by rw [w64_eq _ (by omega)]; omega
    rw [e5]
    refine M.TC_bind (Mid := fun x => 0 ≤ x ∧ x ≤ 255) (M.TC_idx h2 t fun x hx => hc.byte x (List.mem_of_getElem? hx)) fun x hx => M.TC_ret ⟨?_, by simp only; omega, by simp only; omega⟩
    simp only
    rw [w64_eq _ (by omega)]; exact hx.1
  · simp only
    rw [w64_eq x (by omega), w64_eq _ (by omega)]; omega
theorem pick_ok {code : List Int} (hc : ByC code) {s : TL01source} (hs : Src code s) (l : List Int) (h1 : 1 ≤ l.length) (h2 : l.length ≤ 1000) (P : Int → Prop) (hP : ∀ x ∈ l, P x) : M.TC (spec_l01Pick s l) (fun r => Src code r.2.1 ∧ P r.1) := by
  unfold spec_l01Pick
  refine M.TC_bind (next_ok hc hs l.length (by omega)) fun x hx => M.TC_bind (Mid := P) (M.TC_idx hx.2.1 (by omega) fun y hy => hP y (List.mem_of_getElem? hy)) fun y hy => M.TC_ret ⟨hx.1.mk' hs.code_, hy⟩
theorem value_ok {code : List Int} (hc : ByC code) {s : TL01source} (hs : Src code s) : M.TC (spec_l01DrawValue s) (fun r => Src code r.2 ∧ inI64 r.1) := by
  unfold spec_l01DrawValue
  refine M.TC_bind (next_ok hc hs 24 (by omega)) fun x hx => ?_
  refine M.TC_bind (Mid := fun _ => True) (M.TC_ite (fun _ => M.TC_ret trivial) (fun _ => M.TC_ite (fun _ => M.TC_ret trivial) (fun _ => M.TC_ret trivial))) fun b _ => ?_
  refine M.TC_ite (fun _ => M.TC_ret ⟨hx.1.mk' hs.code_, by simp [inI64]⟩) (fun _ => M.TC_ite (fun _ => ?_) (fun _ => M.TC_ite (fun _ => ?_) (fun _ => ?_)))
  · exact M.TC_bind (pick_ok hc (hx.1.mk' hs.code_) _ (by simp) (by simp) inI64 (by simp [inI64])) fun y hy => M.TC_ret ⟨hy.1.mk' hs.code_, hy.2⟩
  · exact M.TC_bind (next_ok hc (hx.1.mk' hs.code_) 2000 (by omega)) fun y hy => M.TC_ret ⟨hy.1.mk' hs.code_, w64_bd _⟩
  · exact M.TC_bind (next_ok hc (hx.1.mk' hs.code_) 41 (by omega)) fun y hy => M.TC_ret ⟨hy.1.mk' hs.code_, w64_bd _⟩
/-- what a drawn matrix is at least: not large, of numbers -/
structure MatS (a : List (List Int)) : Prop where
  rows : a.length ≤ 11
  row : ∀ r ∈ a, r.length ≤ 10 ∧ ∀ x ∈ r, inI64 x
theorem MatS.sm {a : List (List Int)} (h : MatS a) : smII a := ⟨by have := h.rows; omega, fun r hr => by have := (h.row r hr).1; omega⟩
theorem MatS.of {m n : Nat} {f : Nat → Nat → Int} (hm : m ≤ 10) (hn : n ≤ 10) (hf : ∀ i j, inI64 (f i j)) : MatS (matF m n f) := by
  refine ⟨by rw [matF_len]; omega, fun r hr => ?_⟩
  simp only [matF, tab, List.mem_map, List.mem_range] at hr
  obtain ⟨i, hi, rfl⟩ := hr
  refine ⟨by simp; omega, fun x hx => ?_⟩
  simp only [List.mem_map, List.mem_range] at hx
  obtain ⟨j, hj, rfl⟩ := hx
  exact hf i j
theorem size_ok {code : List Int} (hc : ByC code) {s : TL01source} (hs : Src code s) (m n : Nat) (hm : 1 ≤ m ∧ m ≤ 10) (hn : 1 ≤ n ∧ n ≤ 10) : M.TC (spec_l02DrawSize s (m : Int) (n : Int)) (fun r => MatS r.1 ∧ Src code r.2) := by
  unfold spec_l02DrawSize
  rw [hs.code_]
  refine M.TC_bindC (spec_l02Bottom_ok (by omega) (by omega)) (M.TC_bind (pick_ok hc hs _ (by simp) (by simp) (fun x => 2 ≤ x ∧ x ≤ 5) (by simp)) fun p hp => ?_)
  refine M.TC_bind (Mid := fun (r : Int × Int × List (List Int)) => Src code ⟨code, r.1, r.2.1⟩ ∧ ∃ f, r.2.2 = matF m n f ∧ ∀ i j, inI64 (f i j)) (M.TC_for (fun _ (r : Int × Int × List (List Int)) => Src code ⟨code, r.1, r.2.1⟩ ∧ ∃ f, r.2.2 = matF m n f ∧ ∀ i j, inI64 (f i j)) _ (by omega) (by omega) ⟨hp.1.mk' rfl, _, rfl, fun _ _ => by simp [inI64]⟩ (fun i r h1 h2 hI => ?_) (fun _ _ _ hI => hI)) fun r hr => ?_
  · refine M.TC_bind (Mid := fun (r : Int × Int × List (List Int)) => Src code ⟨code, r.1, r.2.1⟩ ∧ ∃ f, r.2.2 = matF m n f ∧ ∀ i j, inI64 (f i j)) (M.TC_for (fun _ (r : Int × Int × List (List Int)) => Src code ⟨code, r.1, r.2.1⟩ ∧ ∃ f, r.2.2 = matF m n f ∧ ∀ i j, inI64 (f i j)) _ (by omega) (by omega) hI (fun j r h3 h4 hI => ?_) (fun _ _ _ hI => hI)) fun r hr => M.TC_ret (.inl ⟨_, rfl, hr⟩)
    obtain ⟨hsr, f, hf, hfi⟩ := hI
    refine M.TC_bind (next_ok hc hsr p.1 (by omega)) fun x hx => ?_
    refine M.TC_bind (Mid := fun (r : Int × Int × List (List Int)) => Src code ⟨code, r.1, r.2.1⟩ ∧ ∃ f, r.2.2 = matF m n f ∧ ∀ i j, inI64 (f i j)) (M.TC_ite (fun _ => ?_) (fun _ => M.TC_ret ⟨hx.1.mk' rfl, f, hf, hfi⟩)) fun r hr => M.TC_ret (.inl ⟨_, rfl, hr⟩)
    rw [hf]
    obtain ⟨i', rfl⟩ : ∃ q : Nat, i = (q : Int) := ⟨i.toNat, by omega⟩
    obtain ⟨j', rfl⟩ : ∃ q : Nat, j = (q : Int) := ⟨j.toNat, by omega⟩
    refine M.TC_bindC (idx_tab (by omega)) (M.TC_bind (next_ok hc (hx.1.mk' rfl) 26 (by omega)) fun y hy => ?_)
    refine M.TC_bindC (idx_tab (by omega)) (M.TC_bindC (M.Conv_upd (by rw [tab_len]; omega)) (M.TC_ret ⟨hy.1.mk' rfl, fun p q => if p = i' ∧ q = j' then w64 (y.1 - 10) else f p q, ?_, fun p q => ?_⟩))
    · simp only [Int.toNat_natCast]
      have := matF_set (m := m) (n := n) (i := i') (j := j') (f := f) (g := fun p q => if p = i' ∧ q = j' then w64 (y.1 - 10) else f p q) (fun p q _ _ hpq => by rw [if_neg hpq])
      simpa using this
    · simp only
      split
      · exact w64_bd _
      · exact hfi p q
  · obtain ⟨hsr, f, hf, hfi⟩ := hr
    refine M.TC_bind (next_ok hc hsr 60 (by omega)) fun x hx => ?_
    rw [hf]
    have hM := MatS.of (m := m) (n := n) hm.2 hn.2 hfi
    refine M.TC_ite (fun _ => ?_) (fun _ => M.TC_ite (fun _ => ?_) (fun _ => M.TC_ite (fun _ => ?_) (fun _ => M.TC_ret ⟨hM, hx.1.mk' rfl⟩)))
    · refine M.TC_bindC (idx_tab (i := 0) (by omega)) (M.TC_bind (value_ok hc (hx.1.mk' rfl)) fun y hy => ?_)
      refine M.TC_bindC (idx_tab (i := 0) (by omega)) (M.TC_bindC (M.Conv_upd (i := 0) (by rw [tab_len]; omega)) (M.TC_ret ⟨?_, hy.1.mk' rfl⟩))
      have := matF_set (m := m) (n := n) (i := 0) (j := 0) (f := f) (g := fun p q => if p = 0 ∧ q = 0 then y.1 else f p q) (fun p q _ _ hpq => by rw [if_neg hpq])
      rw [if_pos ⟨rfl, rfl⟩] at this
      rw [this]
      refine MatS.of hm.2 hn.2 fun p q => ?_
      split
      · exact hy.2
      · exact hfi p q
    · refine M.TC_bindC (M.Conv_app (by rw [matF_len]; simp; omega)) (M.TC_ret ⟨⟨by simp [matF_len]; omega, fun r hr => ?_⟩, hx.1.mk' rfl⟩)
      rcases List.mem_append.1 hr with hr | hr
      · exact hM.row r hr
      · simp at hr; subst hr; simp
    · exact M.TC_ret ⟨⟨by simp, by simp⟩, hx.1.mk' rfl⟩

theorem likeInts_refl {a : List Int} (h : a.length ≤ 1099511627776) : M.Conv (laws_likeInts a a) true := by
  unfold laws_likeInts
  refine M.Conv_ite (fun t => by simp at t) (fun _ => ?_)
  rcases Conv_check (ρ := Bool) (n := a.length) (lo := 0) (f := (fun i1 => (fun (_ : Unit) => M.bind (M.idx a i1) (fun x2 => M.bind (M.idx a i1) (fun x3 => M.ite (x2 != x3) (M.ret (.inr (.inr false))) (M.ret (.inl ()))))))) (fun _ => True) false (by omega) (fun i _ hi => .inl ⟨trivial, M.Conv_bind (nd_read hi) (M.Conv_bind (nd_read hi) (M.Conv_ite (fun t => by simp at t) (fun _ => M.Conv_ret _)))⟩) with ⟨_, h2⟩ | ⟨⟨i, _, _, h3⟩, _⟩
  · exact M.Conv_bind h2 (M.Conv_ret _)
  · exact absurd trivial h3
theorem foldI_at {σ α : Type} {g : Nat → α → σ → σ} {a : List α} (J : Nat → σ → Prop) : ∀ (l : List α) (i : Nat) (s : σ), (∀ k, l[k]? = a[i + k]?) → J i s → (∀ k x s, a[k]? = some x → J k s → J (k + 1) (g k x s)) → J (i + l.length) (foldI g i l s)
  | [], i, s, _, h, _ => h
  | x :: xs, i, s, hl, h, step => by
    have h0 : a[i]? = some x := by have := hl 0; simpa using this.symm
    have := foldI_at J xs (i + 1) (g i x s) (fun k => by have := hl (k + 1); simp only [List.getElem?_cons_succ] at this; rw [this]; congr 1; omega) (step i x s h0 h) step
    rw [show i + (x :: xs).length = i + 1 + xs.length by simp; omega]
    exact this
theorem ent_at {a : List (List Int)} {i j : Nat} {row : List Int} (h : a[i]? = some row) : entA a i j = (row[j]?).getD 0 := by simp only [entA, h, Option.getD_some]
theorem big_ok (code : List Int) : M.Conv (laws_big code) (decide (4096 < (code.length : Int))) := M.Conv_ret _
theorem ByC.of {code : List Int} (h : fitL inU8 code) (hb : decide (4096 < (code.length : Int)) = false) : ByC code := ⟨by have := of_decide_eq_false hb; omega, fun x hx => h.2 x hx⟩
theorem cmp_list {l : List Int} {c : Int} (h : l.length ≤ 1099511627776) (q : Bool) (hq : q = false) : M.Conv (M.ite (q || (c != c)) (M.ret true) (M.bind (laws_likeInts l l) (fun x12 => M.ret (!x12)))) false := by
  subst hq
  exact M.Conv_ite (fun t => by simp at t) (fun _ => M.Conv_bind (likeInts_refl h) (M.Conv_ret _))
theorem shp_width {a : List (List Int)} {w : Nat} (h : Shp a w) : widthN a = w := by
  have h1 := h.rows
  unfold widthN
  cases a with
  | nil => simp at h1
  | cons r rs => exact h.row r (by simp)
structure DotP (u v : Nat → Int) (n : Nat) (s : Int) : Prop where
  up : ∀ j, j < n → u j ≠ -1000000000000000 → v j ≠ -1000000000000000 → u j + v j ≤ s
  on : s = -1000000000000000 ∨ ∃ j, j < n ∧ u j ≠ -1000000000000000 ∧ v j ≠ -1000000000000000 ∧ s = u j + v j
def Bd (B : Int) (x : Int) : Prop := x = -1000000000000000 ∨ (-B ≤ x ∧ x ≤ B)
theorem nd_of {l : List Int} {i : Nat} {x : Int} (h : l[i]? = some x) : nd l i = x := by unfold nd; rw [h]; rfl
def rowN (a : List (List Int)) (i : Nat) : List Int := (a[i]?).getD []
theorem rowN_get {a : List (List Int)} {i : Nat} (h : i < a.length) : a[i]? = some (rowN a i) := by unfold rowN; rw [List.getElem?_eq_getElem h]; rfl
theorem nd_row {a : List (List Int)} {i j : Nat} (h : i < a.length) : nd (rowN a i) j = entA a i j := (ent_at (rowN_get h)).symm
theorem nd_col {b : List (List Int)} {j k : Nat} (h : j < b.length) : nd (colL b k) j = entA b j k := nd_of (tab_get h)
def mulM (a b : List (List Int)) : List (List Int) := matF a.length (widthN b) fun i k => dotL (colL b k) (rowN a i)
theorem mulM_shp {a b : List (List Int)} {n w : Nat} (ha : Shp a n) (hb : Shp b w) : Shp (mulM a b) w := by
  unfold mulM
  rw [shp_width hb]
  exact shp_of ha.rows hb.cols
theorem DotP.congr {u v u' v' : Nat → Int} {n : Nat} {s : Int} (h : DotP u v n s) (hu : ∀ j, j < n → u j = u' j) (hv : ∀ j, j < n → v j = v' j) : DotP u' v' n s := by
  refine ⟨fun j hj h1 h2 => ?_, ?_⟩
  · rw [← hu j hj] at h1 ⊢
    rw [← hv j hj] at h2 ⊢
    exact h.up j hj h1 h2
  · rcases h.on with e | ⟨j, hj, h1, h2, e⟩
    · exact .inl e
    · rw [hu j hj] at h1 e
      rw [hv j hj] at h2 e
      exact .inr ⟨j, hj, h1, h2, e⟩
theorem mulM_eq (a b : List (List Int)) : mulM a b = matF a.length (widthN b) fun i k => dotL (colL b k) (rowN a i) := rfl
theorem likeTables_refl {a : List (List Int)} (h : smII a) : M.Conv (laws_likeTables9 a a) true := by
  have h1 := h.1
  unfold laws_likeTables9
  refine M.Conv_ite (fun t => by simp at t) (fun _ => M.Conv_bind (x := (Sum.inl () : Unit ⊕ Bool)) ?_ (by exact M.Conv_ret true))
  refine Conv_forK (fun _ => ()) (k := a.length) (by omega) (Nat.le_refl _) (fun i hi => ?_) (fun h => absurd h (by omega)) (fun _ => rfl)
  have hr := rowN_get hi
  have hl := h.2 _ (List.mem_of_getElem? hr)
  exact M.Conv_bind (get_row hr) (M.Conv_bind (get_row hr) (M.Conv_bind (likeInts_refl (by omega)) (M.Conv_ite (fun t => by cases t) (fun _ => M.Conv_ret _))))
def pdot (a b : List (List Int)) (i j : Nat) : Nat → Int
  | 0 => -1000000000000000
  | k + 1 => mx (pdot a b i j k) (timesI (entA a i k) (entA b k j))
theorem pdot_dot {a b : List (List Int)} {n w i j : Nat} (ha : Shp a n) (hn : b.length = n) (hi : i < a.length) : dotL (colL b j) (rowN a i) = pdot a b i j n := by
  have hrl := ha.row _ (List.mem_of_getElem? (rowN_get hi))
  have := foldI_at (g := fun j' v s => mx s (timesI v (((colL b j)[j']?).getD 0))) (a := rowN a i) (fun k (s : Int) => s = pdot a b i j k) (rowN a i) 0 (-1000000000000000) (fun k => by simp) rfl (fun k v s hv hs => by
    have hk := (List.getElem?_eq_some_iff.1 hv).1
    subst hs
    have e1 : entA a i k = v := by rw [ent_at (rowN_get hi), hv]; rfl
    have e2 : ((colL b j)[k]?).getD 0 = entA b k j := by rw [show (colL b j)[k]? = some (entA b k j) from tab_get (by omega)]; rfl
    simp only [pdot, e1, e2])
  rw [Nat.zero_add, hrl] at this
  exact this
theorem spec_l02Multiply_ok {a b : List (List Int)} {n w : Nat} (ha : Shp a n) (hb : Shp b w) (hn : b.length = n) : M.Conv (spec_l02Multiply a b) (mulM a b) := by
  have har := ha.rows
  have hbr := hb.rows
  have hbc := hb.cols
  have e : mulM a b = matF a.length w fun i j => pdot a b i j n := by
    rw [mulM_eq, shp_width hb]
    exact matF_congr fun i j hi _ => pdot_dot (w := w) ha hn hi
  rw [e]
  unfold spec_l02Multiply
  obtain ⟨r0, h0, hl0, _⟩ := ent_read hb (i := 0) (j := 0) (by omega) (by omega)
  refine M.Conv_bind h0 ?_
  rw [hl0]
  refine M.Conv_bind (spec_l02Bottom_ok (by omega) (by omega)) ?_
  let g : Nat → Nat → Int := fun i j => pdot a b i j n
  let z : Nat → Nat → Int := fun _ _ => -1000000000000000
  rw [show (matF a.length w fun _ _ => (-1000000000000000 : Int)) = matF a.length w (part g z 0 0) from part_zero.symm]
  refine M.Conv_bind (x := matF a.length w g) ((Conv_forV (fun i => matF a.length w (part g z i 0)) (by omega) fun i hi => ?_).of part_all) (M.Conv_ret _)
  refine M.Conv_bind (x := (matF a.length w (part g z i w), (w : Int))) ?_ ((M.Conv_ret _).of (congrArg Sum.inl part_row))
  refine conv_up0 (fun j => (matF a.length w (part g z i j), (j : Int))) (n := w) (k0 := 0) rfl (by omega) (fun j _ hj => ?_) ?_
  · refine M.Conv_bind h0 ?_
    rw [hl0]
    refine M.Conv_ite (fun _ => ?_) (fun t => by have := of_decide_eq_false t; simp only at this; omega)
    let F : Nat → Nat → Nat → Int := fun k p q => if p = i ∧ q = j then pdot a b i j k else part g z i j p q
    have hF : ∀ k, F k i j = pdot a b i j k := fun k => if_pos ⟨rfl, rfl⟩
    have e0 : matF a.length w (part g z i j) = matF a.length w (F 0) := matF_congr fun p q _ _ => by
      by_cases h : p = i ∧ q = j
      · obtain ⟨rfl, rfl⟩ := h
        simp only [F, and_self, if_true, pdot]
        simp [part, z]
      · simp only [F, if_neg h]
    have e1 : matF a.length w (F n) = matF a.length w (part g z i (j + 1)) := matF_congr fun p q _ _ => by
      by_cases h : p = i ∧ q = j
      · obtain ⟨rfl, rfl⟩ := h
        simp only [F, and_self, if_true]
        simp [part, g]
      · simp only [F, if_neg h, part]
        congr 1
        rw [Bool.eq_iff_iff]; simp; omega
    refine M.Conv_bind (x := matF a.length w (F n)) ?_ ((M.Conv_ret _).of ?_)
    · simp only
      rw [e0, hn]
      refine Conv_forV (fun k => matF a.length w (F k)) (by omega) fun k hk => ?_
      obtain ⟨ra, a1, _, a2⟩ := ent_read ha (i := i) (j := k) hi (by omega)
      obtain ⟨rb, b1, _, b2⟩ := ent_read hb (i := k) (j := j) (by omega) hj
      have g1 := idx_tab (h := F k i) hj
      rw [hF] at g1
      refine M.Conv_bind (idx_tab hi) (M.Conv_bind (idx_tab hi) (M.Conv_bind g1 (M.Conv_bind a1 (M.Conv_bind a2 (M.Conv_bind b1 (M.Conv_bind b2 (M.Conv_bind (spec_l01Times_ok _ _) (M.Conv_bind g1 (M.Conv_bind (M.Conv_upd (by rw [tab_len]; exact hj)) ((M.Conv_ret _).of (congrArg Sum.inl ?_)))))))))))
      rw [Int.toNat_natCast]
      have := matF_set (m := a.length) (n := w) (i := i) (j := j) (f := F k) (g := F (k + 1)) (fun p q _ _ h => by simp only [F, if_neg h])
      rw [hF (k + 1)] at this
      exact this
    · refine congrArg Sum.inl (Prod.ext e1 ?_)
      simp only
      rw [w64_eq _ (by omega)]; omega
  · refine M.Conv_bind h0 ?_
    rw [hl0]
    exact M.Conv_ite (fun t => by have := of_decide_eq_true t; simp only at this; omega) (fun _ => M.Conv_ret _)
def unitM (n : Nat) : List (List Int) := matF n n fun i j => if i = j then 0 else -1000000000000000
theorem unit_mat {n : Nat} (h : 1 ≤ n ∧ n ≤ 10) : Mat (unitM n) n := mat_of h h fun i j _ _ => by
  by_cases e : i = j
  · rw [if_pos e]; rfl
  · rw [if_neg e]; rfl
theorem spec_l02Unit_ok {n : Nat} (h : n ≤ 10) : M.Conv (spec_l02Unit (n : Int)) (unitM n) := by
  unfold spec_l02Unit
  refine M.Conv_bind (spec_l02Bottom_ok (by omega) (by omega)) ?_
  let F : Nat → Nat → Nat → Int := fun k i j => if i = j ∧ i < k then 0 else -1000000000000000
  rw [show (matF n n fun _ _ => (-1000000000000000 : Int)) = matF n n (F 0) from matF_congr fun p q _ _ => by simp [F]]
  refine M.Conv_bind (x := unitM n) ((Conv_forV (fun k => matF n n (F k)) (by omega) fun k hk => ?_).of (matF_congr fun p q hp _ => by simp [F, hp])) (M.Conv_ret _)
  refine M.Conv_bind (idx_tab hk) (M.Conv_bind (idx_tab hk) (M.Conv_bind (M.Conv_upd (by rw [tab_len]; exact hk)) ((M.Conv_ret _).of (congrArg Sum.inl ?_))))
  rw [Int.toNat_natCast]
  have := matF_set (m := n) (n := n) (i := k) (j := k) (f := F k) (g := F (k + 1)) (fun p q _ _ h => by
    simp only [F]
    by_cases e : p = q
    · subst e
      by_cases e2 : p < k
      · rw [if_pos ⟨rfl, e2⟩, if_pos ⟨rfl, by omega⟩]
      · rw [if_neg (by omega), if_neg (by omega)]
    · rw [if_neg (by omega), if_neg (by omega)])
  rw [show F (k + 1) k k = 0 by simp [F]] at this
  exact this
theorem impl_unitMatrix_ok {n : Nat} (h : n ≤ 10) : M.Conv (impl_unitMatrix (n : Int)) (unitM n) := by
  unfold impl_unitMatrix
  refine M.Conv_bind (matrixBy_ok (fun i j => impl_unitMatrix_1 i j) (fun i j => if i = j then 0 else -1000000000000000) (by omega) (by omega) fun i j _ _ => ?_) (M.Conv_ret _)
  unfold impl_unitMatrix_1
  refine M.Conv_ite (fun t => (M.Conv_ret _).of ?_) (fun t => (M.Conv_ret _).of ?_)
  · have t : (i : Int) = j := by simpa using t
    rw [if_pos (by omega)]
  · have t : (i : Int) ≠ j := by simpa using t
    rw [if_neg (by omega)]
theorem unit_ent {n i j : Nat} (hi : i < n) (hj : j < n) : entA (unitM n) i j = if i = j then 0 else -1000000000000000 := entA_matF hi hj
def addM (a b : List (List Int)) (m n : Nat) : List (List Int) := matF m n fun i j => mx (entA a i j) (entA b i j)
theorem spec_l02Own_ok {a : List (List Int)} {w : Nat} (h : Shp a w) : M.Conv (spec_l02Own a) a := by
  have hr := h.rows
  have hc := h.cols
  unfold spec_l02Own
  refine M.Conv_bind ((Conv_forV (fun i => a.take i) (by omega) fun i hi => ?_).of (List.take_of_length_le (Nat.le_refl _))) (M.Conv_ret _)
  have hrow := rowN_get hi
  have hl := h.row _ (List.mem_of_getElem? hrow)
  refine M.Conv_bind (get_row hrow) (M.Conv_bind (spec_l01Own_ok (by unfold smI; omega)) (M.Conv_bind (M.Conv_app (by simp; omega)) ((M.Conv_ret _).of (congrArg Sum.inl ?_))))
  rw [List.take_add_one, hrow]; rfl
theorem spec_l02Add_ok {a b : List (List Int)} {n : Nat} (ha : Shp a n) (hb : Shp b n) (hl : b.length = a.length) : M.Conv (spec_l02Add a b) (addM a b a.length n) := by
  have har := ha.rows
  have hac := ha.cols
  unfold spec_l02Add addM
  refine M.Conv_bind (spec_l02Own_ok ha) ?_
  let g : Nat → Nat → Int := fun i j => mx (entA a i j) (entA b i j)
  have e0 : a = matF a.length n (part g (entA a) 0 0) := (mat_eq ha).trans part_zero.symm
  refine M.Conv_bind (x := matF a.length n g) ?_ (M.Conv_ret _)
  have key := (Conv_forV (n := a.length) (f := (fun i1 => (fun (s1 : (List (List Int))) => M.bind (M.loop (fun (s2 : (List (List Int)) × Int) => M.bind (M.idx s2.1 i1) (fun x4 => M.ite (decide (s2.2 < (x4.length : Int))) (M.bind (M.idx s2.1 i1) (fun x5 => M.bind (M.idx s2.1 i1) (fun x6 => M.bind (M.idx x6 s2.2) (fun x7 => M.bind (M.idx b i1) (fun x8 => M.bind (M.idx x8 s2.2) (fun x9 => M.bind (M.idx x5 s2.2) (fun x10 => M.bind (M.upd x5 s2.2 (mx x7 x9)) (fun l1 => M.ret (.inl ((s2.1.set i1.toNat l1), (w64 (s2.2 + 1)))))))))))) (M.ret (.inr (s2.1, s2.2))))) (s1, 0)) (fun x3 => M.ret (.inl x3.1))))) (fun i => matF a.length n (part g (entA a) i 0)) (by omega) fun i hi => ?_).of (r' := matF a.length n g) part_all
  · rw [← e0] at key
    exact key
  · refine M.Conv_bind (x := (matF a.length n (part g (entA a) i n), (n : Int))) ?_ ((M.Conv_ret _).of (congrArg Sum.inl part_row))
    refine conv_up0 (fun j => (matF a.length n (part g (entA a) i j), (j : Int))) (n := n) (k0 := 0) rfl (by omega) (fun j _ hj => ?_) ?_
    · obtain ⟨rb, b1, _, b2⟩ := ent_read hb (i := i) (j := j) (by omega) hj
      have hp : part g (entA a) i j i j = entA a i j := by simp [part]
      have g1 := idx_tab (h := part g (entA a) i j i) hj
      rw [hp] at g1
      refine M.Conv_bind (idx_tab hi) ?_
      refine M.Conv_ite (fun _ => ?_) (fun t => by have := of_decide_eq_false t; simp only [tab_len] at this; omega)
      refine M.Conv_bind (idx_tab hi) (M.Conv_bind (idx_tab hi) (M.Conv_bind g1 (M.Conv_bind b1 (M.Conv_bind b2 (M.Conv_bind g1 (M.Conv_bind (M.Conv_upd (by rw [tab_len]; exact hj)) ((M.Conv_ret _).of (congrArg Sum.inl (Prod.ext ?_ ?_)))))))))
      · simp only [Int.toNat_natCast]
        exact part_step (g := g)
      · simp only
        rw [w64_eq _ (by omega)]; omega
    · refine M.Conv_bind (idx_tab hi) ?_
      exact M.Conv_ite (fun t => by have := of_decide_eq_true t; simp only [tab_len] at this; omega) (fun _ => M.Conv_ret _)
theorem same_tc {a b : List (List Int)} {w : Nat} (ha : Shp a w) (hb : Shp b w) (hl : b.length = a.length) : ∃ r, M.Conv (spec_l02Same a b) r := by
  have har := ha.rows
  have hac := ha.cols
  suffices key : M.TC (spec_l02Same a b) (fun _ => True) by obtain ⟨r, c, _⟩ := key; exact ⟨r, c⟩
  unfold spec_l02Same
  refine M.TC_ite (fun _ => M.TC_ret trivial) (fun _ => M.TC_bind (Mid := fun _ => True) (M.TC_for (fun _ _ => True) _ (by omega) (by omega) trivial (fun i s i0 i1 _ => ?_) (fun _ _ _ _ => trivial)) fun r _ => ?_)
  · obtain ⟨j, rfl⟩ : ∃ j : Nat, i = j := ⟨i.toNat, by omega⟩
    have r1 := rowN_get (a := a) (i := j) (by omega)
    have l1 := ha.row _ (List.mem_of_getElem? r1)
    exact M.TC_bindC (get_row r1) (M.TC_bindC (get_row (rowN_get (a := b) (i := j) (by omega))) (M.TC_bindC (spec_l01Same_ok (by omega)) (M.TC_ite (fun _ => M.TC_ret (.inr ⟨_, rfl, trivial⟩)) (fun _ => M.TC_ret (.inl ⟨_, rfl, trivial⟩)))))
  · cases r with
    | inl s => exact M.TC_ret trivial
    | inr r => exact M.TC_ret trivial
def stM (a : List (List Int)) (n : Nat) : Nat → List (List Int)
  | 0 => unitM n
  | k + 1 => addM (unitM n) (mulM a (stM a n k)) n n
theorem nodup_lt : ∀ (n : Nat) (l : List Nat), l.Nodup → (∀ v ∈ l, v < n) → l.length ≤ n
  | 0, [], _, _ => Nat.le_refl _
  | 0, v :: _, _, h => absurd (h v List.mem_cons_self) (by omega)
  | n + 1, l, hd, h => by
    by_cases hm : n ∈ l
    · have := nodup_lt n (l.erase n) (hd.erase n) (fun v hv => by
        have h1 := (hd.mem_erase_iff).1 hv
        have := h v h1.2
        have := h1.1
        omega)
      rw [List.length_erase_of_mem hm] at this
      omega
    · have := nodup_lt n l hd (fun v hv => by
        have := h v hv
        have : v ≠ n := fun e => hm (e ▸ hv)
        omega)
      omega
theorem chain {P : Nat → Nat → Prop} {n s : Nat} (hs : s < n) (h0 : P 0 s) (mono : ∀ k v, P k v → P (k + 1) v) (step : ∀ k, (∀ v, v < n → P (k + 1) v → P k v) → ∀ v, v < n → P (k + 2) v → P (k + 1) v) : ∀ k v, v < n → P k v → P n v := by
  have key : ∀ k, k ≤ n → (∃ j, j < k ∧ ∀ v, v < n → P (j + 1) v → P j v) ∨ ∃ l : List Nat, l.Nodup ∧ l.length = k + 1 ∧ ∀ v ∈ l, v < n ∧ P k v := by
    intro k
    induction k with
    | zero => exact fun _ => .inr ⟨[s], by simp, rfl, fun v hv => by simp at hv; subst hv; exact ⟨hs, h0⟩⟩
    | succ k ih =>
      intro hk
      rcases ih (by omega) with ⟨j, hj, h⟩ | ⟨l, l1, l2, l3⟩
      · exact .inl ⟨j, by omega, h⟩
      · by_cases hst : ∀ v, v < n → P (k + 1) v → P k v
        · exact .inl ⟨k, by omega, hst⟩
        · right
          have : ∃ v, v < n ∧ P (k + 1) v ∧ ¬ P k v := by
            refine Classical.byContradiction fun hc => hst fun v hv hp => Classical.byContradiction fun hnp => hc ⟨v, hv, hp, hnp⟩
          obtain ⟨v, hv, hp, hnp⟩ := this
          refine ⟨v :: l, List.nodup_cons.2 ⟨fun hm => hnp (l3 v hm).2, l1⟩, by simp [l2], fun u hu => ?_⟩
          rcases List.mem_cons.1 hu with rfl | hu
          · exact ⟨hv, hp⟩
          · exact ⟨(l3 u hu).1, mono _ _ (l3 u hu).2⟩
  obtain ⟨j, hj, hst⟩ : ∃ j, j < n ∧ ∀ v, v < n → P (j + 1) v → P j v := by
    rcases key n (Nat.le_refl _) with h | ⟨l, l1, l2, l3⟩
    · exact h
    · have := nodup_lt n l l1 fun v hv => (l3 v hv).1
      omega
  have up : ∀ d k v, P k v → P (k + d) v := by
    intro d
    induction d with
    | zero => exact fun k v h => h
    | succ d ih => exact fun k v h => mono _ _ (ih k v h)
  have stay : ∀ d, ∀ v, v < n → P (j + d + 1) v → P (j + d) v := by
    intro d
    induction d with
    | zero => exact hst
    | succ d ih => exact step (j + d) ih
  have down : ∀ d v, v < n → P (j + d) v → P j v := by
    intro d
    induction d with
    | zero => exact fun v _ h => h
    | succ d ih => exact fun v hv h => ih v hv (stay d v hv h)
  intro k v hv hp
  have h1 : P (j + k) v := by have := up j k v hp; rwa [Nat.add_comm] at this
  have h2 := down k v hv h1
  have := up (n - j) j v h2
  rwa [show j + (n - j) = n by omega] at this
theorem M.TC_forN {σ : Type} {n : Nat} {f : Int → σ → M (σ ⊕ σ)} {s : σ} (I : Nat → σ → Prop) (hn : n ≤ 9223372036854775807) (h0 : I 0 s) (round : ∀ (i : Nat) s, i < n → I i s → M.TC (f (i : Int) s) fun y => ∃ s', y = .inl s' ∧ I (i + 1) s') : M.TC (M.forI 0 (n : Int) (fun s => s) f s) (I n) := by
  refine M.TC_for (fun i s => I i.toNat s) s (by omega) (by omega) h0 (fun i s h1 h2 hI => ?_) (fun i s hi hI => ?_)
  · obtain ⟨k, rfl⟩ : ∃ k : Nat, i = k := ⟨i.toNat, by omega⟩
    refine (round k s (by omega) (by simpa using hI)).mono fun y hy => ?_
    obtain ⟨s', e, h⟩ := hy
    exact .inl ⟨s', e, by rw [show ((k : Int) + 1).toNat = k + 1 by omega]; exact h⟩
  · have e : i.toNat = n := by omega
    rw [e] at hI; exact hI
theorem M.TC_forE {σ ρ : Type} {n : Nat} {f : Int → σ → M (σ ⊕ (σ ⊕ ρ))} {s : σ} (I : Nat → σ → Prop) (Q : ρ → Prop) (hn : n ≤ 9223372036854775807) (h0 : I 0 s) (round : ∀ (i : Nat) s, i < n → I i s → M.TC (f (i : Int) s) fun y => (∃ s', y = .inl s' ∧ I (i + 1) s') ∨ ∃ r, y = .inr (.inr r) ∧ Q r) :
    M.TC (M.forI 0 (n : Int) (fun s => .inl s) f s) (fun y => (∃ s', y = .inl s' ∧ I n s') ∨ ∃ r, y = .inr r ∧ Q r) := by
  refine M.TC_for (fun i s => I i.toNat s) s (by omega) (by omega) h0 (fun i s h1 h2 hI => ?_) (fun i s hi hI => ?_)
  · obtain ⟨k, rfl⟩ : ∃ k : Nat, i = k := ⟨i.toNat, by omega⟩
    refine (round k s (by omega) (by simpa using hI)).mono fun y hy => ?_
    rcases hy with ⟨s', e, h⟩ | ⟨r, e, h⟩
    · exact .inl ⟨s', e, by rw [show ((k : Int) + 1).toNat = k + 1 by omega]; exact h⟩
    · exact .inr ⟨_, e, .inr ⟨r, rfl, h⟩⟩
  · have e : i.toNat = n := by omega
    rw [e] at hI; exact .inl ⟨s, rfl, hI⟩
inductive RK (E : Nat → Nat → Prop) (n v : Nat) : Nat → Nat → Prop
  | nil (k : Nat) : RK E n v k v
  | step (k j i : Nat) : RK E n v k j → j < n → i < n → E j i → RK E n v (k + 1) i
theorem RK.mono {E : Nat → Nat → Prop} {n v k i : Nat} (h : RK E n v k i) : ∀ {m : Nat}, k ≤ m → RK E n v m i := by
  induction h with
  | nil k => exact fun _ => .nil _
  | step k j i _ hj hi he ih =>
    intro m hm
    obtain ⟨m', rfl⟩ : ∃ m', m = m' + 1 := ⟨m - 1, by omega⟩
    exact .step m' j i (ih (by omega)) hj hi he
theorem RK.short {E : Nat → Nat → Prop} {n v k i : Nat} (hv : v < n) (h : RK E n v k i) (hi : i < n) : RK E n v n i := by
  refine chain (P := fun k i => RK E n v k i) hv (.nil 0) (fun k i h => h.mono (by omega)) (fun k hst i hi h => ?_) k i hi h
  generalize e : k + 2 = m at h
  cases h with
  | nil => exact .nil _
  | step k' j i hj1 hj hi he =>
    obtain rfl : k' = k + 1 := by omega
    exact .step k j i (hst j hj hj1) hj hi he
def Rch (E : Nat → Nat → Prop) (n v i : Nat) : Prop := ∃ k, RK E n v k i
theorem Rch.refl (E : Nat → Nat → Prop) (n v : Nat) : Rch E n v v := ⟨0, .nil 0⟩
theorem Rch.step {E : Nat → Nat → Prop} {n v j i : Nat} (h : Rch E n v j) (hj : j < n) (hi : i < n) (he : E j i) : Rch E n v i := let ⟨k, h⟩ := h; ⟨k + 1, .step k j i h hj hi he⟩
theorem Rch.trans {E : Nat → Nat → Prop} {n v j i : Nat} (h : Rch E n v j) (g : Rch E n j i) : Rch E n v i := by
  obtain ⟨k, g⟩ := g
  induction g with
  | nil => exact h
  | step k j' i' _ hj hi he ih => exact ih.step hj hi he
def arcE (a : List (List Int)) (k i : Nat) : Prop := entA a i k ≠ -1000000000000000
def bmF (n : Nat) (r : Nat → Nat → Bool) : List (List Bool) := tab n fun i => tab n (r i)
theorem bset {n i : Nat} {f : Nat → Bool} {b : Bool} : (tab n f).set i b = tab n fun p => if p = i then b else f p :=
  tab_set (by rw [if_pos rfl]) fun p _ hp => by rw [if_neg hp]
theorem spec_l05Reach_ok {a : List (List Int)} (hs : Shp a a.length) : ∃ r : Nat → Nat → Bool, M.Conv (spec_l05Reach a) (bmF a.length r) ∧ ∀ v i, v < a.length → i < a.length → (r v i = true ↔ Rch (arcE a) a.length v i) := by
  have hrows := hs.rows
  have row : ∀ v, v < a.length → ∃ f : Nat → Bool, M.Conv (M.forI 0 (a.length : Int) (fun s => s) (fun _ => (fun (s2 : (List Bool)) => M.bind (M.forI 0 (a.length : Int) (fun s => s) (fun i3 => (fun (s3 : (List Bool)) => M.bind (M.forI 0 (a.length : Int) (fun s => s) (fun i4 => (fun (s4 : (List Bool)) => M.bind (M.idx s4 i4) (fun x6 => M.bind (M.ite x6 (M.bind (M.idx a i3) (fun x8 => M.bind (M.idx x8 i4) (fun x9 => M.ret (x9 != (-1000000000000000))))) (M.ret false)) (fun x7 => M.bind (M.ite x7 (M.bind (M.idx s4 i3) (fun x10 => M.bind (M.upd s4 i3 true) (fun l3 => M.ret l3))) (M.ret s4)) (fun (s5 : (List Bool)) => M.ret (.inl s5)))))) s3) (fun x5 => M.ret (.inl x5)))) s2) (fun x4 => M.ret (.inl x4)))) (tab a.length fun p => if p = v then true else false)) (tab a.length f) ∧ ∀ i, i < a.length → (f i = true ↔ Rch (arcE a) a.length v i) := fun v hv => by
    have key := M.TC_forN (n := a.length) (f := fun _ => (fun (s2 : (List Bool)) => M.bind (M.forI 0 (a.length : Int) (fun s => s) (fun i3 => (fun (s3 : (List Bool)) => M.bind (M.forI 0 (a.length : Int) (fun s => s) (fun i4 => (fun (s4 : (List Bool)) => M.bind (M.idx s4 i4) (fun x6 => M.bind (M.ite x6 (M.bind (M.idx a i3) (fun x8 => M.bind (M.idx x8 i4) (fun x9 => M.ret (x9 != (-1000000000000000))))) (M.ret false)) (fun x7 => M.bind (M.ite x7 (M.bind (M.idx s4 i3) (fun x10 => M.bind (M.upd s4 i3 true) (fun l3 => M.ret l3))) (M.ret s4)) (fun (s5 : (List Bool)) => M.ret (.inl s5)))))) s3) (fun x5 => M.ret (.inl x5)))) s2) (fun x4 => M.ret (.inl x4)))) (s := tab a.length fun p => if p = v then true else false)
      (fun t s => ∃ f : Nat → Bool, s = tab a.length f ∧ (∀ i, i < a.length → f i = true → Rch (arcE a) a.length v i) ∧ ∀ i, i < a.length → RK (arcE a) a.length v t i → f i = true) (by omega)
      ⟨_, rfl, (fun i _ h => by
        by_cases e : i = v
        · subst e; exact Rch.refl _ _ _
        · rw [if_neg e] at h; cases h), (fun i _ h => by
        generalize e : 0 = t at h
        cases h with
        | nil => exact if_pos rfl
        | step => omega)⟩ (fun t s _ hI => ?_)
    · obtain ⟨l, c, f, rfl, h1, h2⟩ := key
      exact ⟨f, c, fun i hi => ⟨h1 i hi, fun h => by
        obtain ⟨k, h⟩ := h
        exact h2 i hi (h.short hv hi)⟩⟩
    · obtain ⟨f0, rfl, s0, c0⟩ := hI
      refine M.TC_bind (M.TC_forN (n := a.length) (fun i s => ∃ f : Nat → Bool, s = tab a.length f ∧ (∀ p, p < a.length → f p = true → Rch (arcE a) a.length v p) ∧ (∀ p, f0 p = true → f p = true) ∧ ∀ p q, p < i → q < a.length → f0 q = true → arcE a q p → f p = true) (by omega) ⟨f0, rfl, s0, fun p h => h, fun p q hp => by omega⟩ (fun i s hi hI => ?_)) (fun l hl => ?_)
      · obtain ⟨f1, rfl, s1, m1, c1⟩ := hI
        refine M.TC_bind (M.TC_forN (n := a.length) (fun k s => ∃ f : Nat → Bool, s = tab a.length f ∧ (∀ p, p < a.length → f p = true → Rch (arcE a) a.length v p) ∧ (∀ p, f1 p = true → f p = true) ∧ ∀ q, q < k → f0 q = true → arcE a q i → f i = true) (by omega) ⟨f1, rfl, s1, fun p h => h, fun q hq => by omega⟩ (fun k s hk hI => ?_)) (fun l hl => ?_)
        · obtain ⟨f2, rfl, s2, m2, c2⟩ := hI
          obtain ⟨rw', r1, _, r2⟩ := ent_read hs hi hk
          refine M.TC_bindC (idx_tab hk) (M.TC_bindC (x := f2 k && (entA a i k != (-1000000000000000))) (M.Conv_ite (fun t => M.Conv_bind r1 (M.Conv_bind r2 ((M.Conv_ret _).of (by rw [t]; rfl)))) (fun t => (M.Conv_ret _).of (by rw [t]; rfl))) ?_)
          cases hb : f2 k && (entA a i k != (-1000000000000000)) with
          | true =>
            simp only [Bool.and_eq_true, bne_iff_ne, ne_eq] at hb
            refine M.TC_bindC (M.Conv_ite (fun _ => M.Conv_bind (idx_tab hi) (M.Conv_bind (M.Conv_upd (by rw [tab_len]; exact hi)) (M.Conv_ret _))) (fun t => by cases t)) (M.TC_ret ⟨_, rfl, _, bset, fun p hp h => ?_, fun p h => ?_, fun q hq _ _ => if_pos rfl⟩)
            · by_cases e : p = i
              · subst e; exact (s2 k hk hb.1).step hk hp hb.2
              · rw [if_neg e] at h; exact s2 p hp h
            · by_cases e : p = i
              · rw [if_pos e]
              · rw [if_neg e]; exact m2 p h
          | false =>
            refine M.TC_bindC (M.Conv_ite (fun t => by cases t) (fun _ => M.Conv_ret _)) (M.TC_ret ⟨_, rfl, f2, rfl, s2, m2, fun q hq h0 he => ?_⟩)
            by_cases e : q = k
            · subst e
              have h3 := m2 q (m1 q h0)
              rw [h3] at hb
              exact absurd he (by simpa [arcE] using hb)
            · exact c2 q (by omega) h0 he
        · obtain ⟨f2, rfl, s2, m2, c2⟩ := hl
          refine M.TC_ret ⟨_, rfl, f2, rfl, s2, fun p h => m2 p (m1 p h), fun p q hp hq h0 he => ?_⟩
          by_cases e : p = i
          · subst e; exact c2 q hq h0 he
          · exact m2 p (c1 p q (by omega) hq h0 he)
      · obtain ⟨f1, rfl, s1, m1, c1⟩ := hl
        refine M.TC_ret ⟨_, rfl, f1, rfl, s1, fun i hi h => ?_⟩
        generalize e : t + 1 = t' at h
        cases h with
        | nil => exact m1 v (c0 v hv (.nil _))
        | step k j i hj1 hj _ he =>
          obtain rfl : k = t := by omega
          exact c1 i j hi hj (c0 j hj hj1) he
  have key : M.TC (spec_l05Reach a) (fun m => ∃ r : Nat → Nat → Bool, m = bmF a.length r ∧ ∀ v i, v < a.length → i < a.length → (r v i = true ↔ Rch (arcE a) a.length v i)) := by
    unfold spec_l05Reach
    refine M.TC_bind (M.TC_forN (n := a.length) (fun v s => ∃ r : Nat → Nat → Bool, s = tab v (fun i => tab a.length (r i)) ∧ ∀ u i, u < v → i < a.length → (r u i = true ↔ Rch (arcE a) a.length u i)) (by omega) ⟨fun _ _ => false, rfl, fun u i hu => by omega⟩ (fun v s hv hI => ?_)) (fun l hl => ?_)
    · obtain ⟨r, rfl, h⟩ := hI
      obtain ⟨f, c, hf⟩ := row v hv
      refine M.TC_bindC ((M.Conv_make (by omega) (by omega)).of (r' := tab a.length fun _ => false) (by rw [Int.toNat_natCast, tab_rep])) (M.TC_bindC (idx_tab hv) (M.TC_bindC ((M.Conv_upd (by rw [tab_len]; exact hv)).of bset) (M.TC_bindC c (M.TC_bindC (M.Conv_app (by rw [tab_len]; simp; omega)) (M.TC_ret ⟨_, rfl, fun u => if u = v then f else r u, ?_, fun u i hu hi => ?_⟩)))))
      · rw [← tab_snoc]
        congr 1
        · exact tab_congr fun u hu => by simp only; rw [if_neg (by omega)]
        · simp only [if_true]
      · by_cases e : u = v
        · subst e; simp only [if_true]; exact hf i hi
        · simp only; rw [if_neg e]; exact h u i (by omega) hi
    · obtain ⟨r, rfl, h⟩ := hl
      exact M.TC_ret ⟨r, rfl, h⟩
  obtain ⟨m, c, r, rfl, h⟩ := key
  exact ⟨r, c, h⟩
def compF (r : Nat → Nat → Bool) (n v : Nat) : List Int := ((List.range n).filter fun w => r v w && r w v).map fun (w : Nat) => (w : Int)
def compsF (r : Nat → Nat → Bool) (n : Nat) : List (List Int) := ((List.range n).filter fun (v : Nat) => (compF r n v).head? == some (v : Int)).map (compF r n)
theorem filter_snoc {p : Nat → Bool} (i : Nat) : (List.range (i + 1)).filter p = (List.range i).filter p ++ (bif p i then [i] else []) := by
  rw [List.range_succ, List.filter_append]
  cases h : p i <;> simp [h]
theorem compF_mem {r : Nat → Nat → Bool} {n v : Nat} {x : Int} : x ∈ compF r n v ↔ ∃ w : Nat, x = w ∧ w < n ∧ r v w = true ∧ r w v = true := by
  simp only [compF, List.mem_map, List.mem_filter, List.mem_range, Bool.and_eq_true]
  constructor
  · rintro ⟨w, ⟨h1, h2, h3⟩, rfl⟩; exact ⟨w, rfl, h1, h2, h3⟩
  · rintro ⟨w, rfl, h1, h2, h3⟩; exact ⟨w, ⟨h1, h2, h3⟩, rfl⟩
theorem compF_len {r : Nat → Nat → Bool} {n v : Nat} : (compF r n v).length ≤ n := by
  unfold compF
  rw [List.length_map]
  exact Nat.le_trans (List.length_filter_le _ _) (by simp)
theorem compsF_len {r : Nat → Nat → Bool} {n : Nat} : (compsF r n).length ≤ n := by
  unfold compsF
  rw [List.length_map]
  exact Nat.le_trans (List.length_filter_le _ _) (by simp)
theorem comps_ok {n : Nat} {r : Nat → Nat → Bool} (hn : n ≤ 10) (hr : ∀ v, v < n → r v v = true) :
    M.Conv (M.bind (M.forI 0 (n : Int) (fun s => s) (fun i1 => (fun (s1 : (List (List Int))) => M.bind (M.forI 0 (n : Int) (fun s => s) (fun i2 => (fun (s2 : (List Int)) => M.bind (M.idx (bmF n r) i1) (fun x4 => M.bind (M.idx x4 i2) (fun x5 => M.bind (M.ite x5 (M.bind (M.idx (bmF n r) i2) (fun x7 => M.bind (M.idx x7 i1) (fun x8 => M.ret x8))) (M.ret false)) (fun x6 => M.bind (M.ite x6 (M.bind (M.app s2 ([i2] : List Int)) (fun l1 => M.ret l1)) (M.ret s2)) (fun (s3 : (List Int)) => M.ret (.inl s3))))))) ([] : List Int)) (fun x3 => M.bind (M.idx x3 0) (fun x9 => M.bind (M.ite (x9 == i1) (M.bind (M.app s1 [x3]) (fun l2 => M.ret l2)) (M.ret s1)) (fun (s4 : (List (List Int))) => M.ret (.inl s4)))))) ([] : List (List Int))) (fun x2 => M.ret x2)) (compsF r n) := by
  refine M.Conv_bind (Conv_forV (fun i => ((List.range i).filter fun (v : Nat) => (compF r n v).head? == some (v : Int)).map (compF r n)) (by omega) fun v hv => ?_) (M.Conv_ret _)
  have hin : M.Conv (M.forI 0 (n : Int) (fun s => s) (fun i2 => (fun (s2 : (List Int)) => M.bind (M.idx (bmF n r) (v : Int)) (fun x4 => M.bind (M.idx x4 i2) (fun x5 => M.bind (M.ite x5 (M.bind (M.idx (bmF n r) i2) (fun x7 => M.bind (M.idx x7 (v : Int)) (fun x8 => M.ret x8))) (M.ret false)) (fun x6 => M.bind (M.ite x6 (M.bind (M.app s2 ([i2] : List Int)) (fun l1 => M.ret l1)) (M.ret s2)) (fun (s3 : (List Int)) => M.ret (.inl s3))))))) ([] : List Int)) (compF r n v) := by
    refine Conv_forV (fun i => ((List.range i).filter fun w => r v w && r w v).map fun (w : Nat) => (w : Int)) (by omega) fun w hw => ?_
    refine M.Conv_bind (idx_tab hv) (M.Conv_bind (idx_tab hw) (M.Conv_bind (x := r v w && r w v) (M.Conv_ite (fun t => M.Conv_bind (idx_tab hw) (M.Conv_bind (idx_tab hv) ((M.Conv_ret _).of (by rw [t]; rfl)))) (fun t => (M.Conv_ret _).of (by rw [t]; rfl))) ?_))
    rw [filter_snoc]
    cases hb : r v w && r w v with
    | true =>
      refine M.Conv_bind (M.Conv_ite (fun _ => M.Conv_bind (M.Conv_app ?_) (M.Conv_ret _)) (fun t => by cases t)) ((M.Conv_ret _).of ?_)
      · have := List.length_filter_le (fun w => r v w && r w v) (List.range w)
        rw [List.length_range] at this
        rw [List.length_map]
        simp only [List.length_cons, List.length_nil]
        omega
      · simp
    | false => exact M.Conv_bind (M.Conv_ite (fun t => by cases t) (fun _ => M.Conv_ret _)) ((M.Conv_ret _).of (by simp))
  refine M.Conv_bind hin ?_
  have hmem : (v : Int) ∈ compF r n v := compF_mem.2 ⟨v, rfl, hv, hr v hv, hr v hv⟩
  obtain ⟨y, ys, hy⟩ := List.exists_cons_of_ne_nil (List.ne_nil_of_mem hmem)
  refine M.Conv_bind (x := y) (M.Conv_get (by omega) (by rw [hy]; rfl)) ?_
  rw [filter_snoc, show ((compF r n v).head? == some (v : Int)) = (y == (v : Int)) by rw [hy]; rfl]
  cases hb : (y == (v : Int)) with
  | true =>
    refine M.Conv_bind (M.Conv_ite (fun _ => M.Conv_bind (M.Conv_app ?_) (M.Conv_ret _)) (fun t => by cases t)) ((M.Conv_ret _).of ?_)
    · have := List.length_filter_le (fun (v : Nat) => (compF r n v).head? == some (v : Int)) (List.range v)
      rw [List.length_range] at this
      rw [List.length_map]
      simp only [List.length_cons, List.length_nil]
      omega
    · simp
  | false => exact M.Conv_bind (M.Conv_ite (fun t => by cases t) (fun _ => M.Conv_ret _)) ((M.Conv_ret _).of (by simp))
theorem spec_l05Components_ok {a : List (List Int)} (hs : Shp a a.length) : ∃ r : Nat → Nat → Bool, M.Conv (spec_l05Components a) (compsF r a.length) ∧ ∀ v i, v < a.length → i < a.length → (r v i = true ↔ Rch (arcE a) a.length v i) := by
  obtain ⟨r, h1, h2⟩ := spec_l05Reach_ok hs
  have := hs.rows
  refine ⟨r, ?_, h2⟩
  unfold spec_l05Components
  exact M.Conv_bind h1 (comps_ok (by omega) fun v hv => (h2 v v hv hv).2 (Rch.refl _ _ _))
theorem contains_neg {l : List Int} (h : l.length ≤ 9223372036854775807) (v : Int) : M.Conv (slices_Contains_int l v) (l.any fun x => v == x) := by
  unfold slices_Contains_int slices_Index_int
  refine contains_ok (fun x => v == x) h fun i x hx => ?_
  refine M.Conv_bind (M.Conv_get (by omega) (by simpa using hx)) ?_
  cases v == x <;> exact M.Conv_ret _
inductive Chn (a : List (List Int)) (n : Nat) : List Nat → Int → Prop
  | one (v : Nat) : v < n → Chn a n [v] 0
  | cons (u v : Nat) (r : List Nat) (w : Int) : u < n → entA a v u ≠ -1000000000000000 → Chn a n (v :: r) w → Chn a n (u :: v :: r) (entA a v u + w)
theorem Chn.lt {a : List (List Int)} {n : Nat} {l : List Nat} {w : Int} (h : Chn a n l w) : ∀ x ∈ l, x < n := by
  induction h with
  | one v hv => intro x hx; simp at hx; subst hx; exact hv
  | cons u v r w hu _ _ ih =>
    intro x hx
    rcases List.mem_cons.1 hx with rfl | hx
    · exact hu
    · exact ih x hx
theorem Chn.unique {a : List (List Int)} {n : Nat} {l : List Nat} {w : Int} (h : Chn a n l w) : ∀ {w' : Int}, Chn a n l w' → w = w' := by
  induction h with
  | one v hv => intro w' h'; cases h'; rfl
  | cons u v r w hu _ _ ih => intro w' h'; cases h' with | cons _ _ _ w2 _ _ h2 => rw [ih h2]
theorem Chn.append {a : List (List Int)} {n : Nat} {v : Nat} {z : List Nat} {w2 : Int} (h2 : Chn a n (v :: z) w2) : ∀ {x : List Nat} {w1 : Int}, Chn a n (x ++ [v]) w1 → Chn a n (x ++ v :: z) (w1 + w2)
  | [], w1, h1 => by cases h1; rw [Int.zero_add]; exact h2
  | [u], w1, h1 => by
    cases h1 with
    | cons _ _ _ w hu ha h =>
      have := Chn.append h2 (x := []) h
      rw [Int.add_assoc]; exact .cons u v z _ hu ha this
  | u :: u' :: x, w1, h1 => by
    cases h1 with
    | cons _ _ _ w hu ha h =>
      have := Chn.append h2 (x := u' :: x) h
      rw [Int.add_assoc]; exact .cons u u' _ _ hu ha this
theorem Chn.split {a : List (List Int)} {n : Nat} {v : Nat} {z : List Nat} : ∀ {x : List Nat} {w : Int}, Chn a n (x ++ v :: z) w → ∃ w1 w2, w = w1 + w2 ∧ Chn a n (x ++ [v]) w1 ∧ Chn a n (v :: z) w2
  | [], w, h => ⟨0, w, by omega, .one v (h.lt v (by simp)), h⟩
  | [u], w, h => by
    cases h with
    | cons _ _ _ w' hu ha h => exact ⟨entA a v u, w', rfl, by have := Chn.cons u v [] 0 hu ha (.one v (h.lt v (by simp))); rwa [Int.add_zero] at this, h⟩
  | u :: u' :: x, w, h => by
    cases h with
    | cons _ _ _ w' hu ha h =>
      obtain ⟨w1, w2, rfl, h1, h2⟩ := Chn.split (x := u' :: x) h
      exact ⟨entA a u' u + w1, w2, by omega, .cons u u' _ _ hu ha h1, h2⟩
/-- a closed chain -/
def Cl (a : List (List Int)) (n : Nat) (l : List Nat) (w : Int) : Prop := ∃ h r, l = h :: r ∧ Chn a n (l ++ [h]) w
theorem Cl.ne {a : List (List Int)} {n : Nat} {l : List Nat} {w : Int} (h : Cl a n l w) : l ≠ [] := by obtain ⟨_, _, rfl, _⟩ := h; simp
theorem Cl.lt {a : List (List Int)} {n : Nat} {l : List Nat} {w : Int} (h : Cl a n l w) : ∀ x ∈ l, x < n := by
  obtain ⟨_, _, rfl, h⟩ := h
  exact fun x hx => h.lt x (List.mem_append.2 (.inl hx))
theorem Cl.unique {a : List (List Int)} {n : Nat} {l : List Nat} {w w' : Int} (h : Cl a n l w) (h' : Cl a n l w') : w = w' := by
  obtain ⟨_, _, rfl, h⟩ := h
  obtain ⟨_, _, e, h'⟩ := h'
  cases e
  exact h.unique h'
theorem Cl.rot {a : List (List Int)} {n : Nat} {x y : List Nat} {w : Int} (h : Cl a n (x ++ y) w) : Cl a n (y ++ x) w := by
  cases x with
  | nil => simpa using h
  | cons h' x =>
    cases y with
    | nil => simpa using h
    | cons g y =>
      obtain ⟨h0, r, e, hc⟩ := h
      simp only [List.cons_append, List.cons.injEq] at e
      obtain ⟨rfl, rfl⟩ := e
      have hc : Chn a n ((h' :: x) ++ g :: (y ++ [h'])) w := by simpa using hc
      obtain ⟨w1, w2, rfl, c1, c2⟩ := hc.split
      refine ⟨g, y ++ h' :: x, rfl, ?_⟩
      have c1' : Chn a n (h' :: (x ++ [g])) w1 := by simpa using c1
      have := Chn.append c1' (x := g :: y) (by simpa using c2)
      rw [Int.add_comm]
      simpa using this
/-- a node met twice: two closed chains -/
theorem Cl.cut {a : List (List Int)} {n : Nat} {x y z : List Nat} {v : Nat} {w : Int} (h : Cl a n (x ++ v :: y ++ v :: z) w) : ∃ w1 w2, w = w1 + w2 ∧ Cl a n (v :: y) w1 ∧ Cl a n (v :: z ++ x) w2 := by
  have h' : Cl a n (x ++ (v :: y ++ v :: z)) w := by simpa using h
  obtain ⟨h0, r, e, hc⟩ := h'.rot
  simp only [List.cons_append, List.append_assoc, List.cons.injEq] at e
  obtain ⟨rfl, rfl⟩ := e
  have hc : Chn a n ((v :: y) ++ v :: (z ++ x ++ [v])) w := by simpa using hc
  obtain ⟨w1, w2, rfl, c1, c2⟩ := hc.split
  exact ⟨w1, w2, rfl, ⟨v, y, rfl, c1⟩, ⟨v, z ++ x, rfl, by simpa using c2⟩⟩
theorem dup_of : ∀ {l : List Nat}, ¬ l.Nodup → ∃ (x : List Nat) (v : Nat) (y z : List Nat), l = x ++ v :: y ++ v :: z
  | [], h => absurd List.nodup_nil h
  | u :: l, h => by
    by_cases hm : u ∈ l
    · obtain ⟨y, z, rfl⟩ := List.append_of_mem hm
      exact ⟨[], u, y, z, rfl⟩
    · have : ¬ l.Nodup := fun hd => h (List.nodup_cons.2 ⟨hm, hd⟩)
      obtain ⟨x, v, y, z, rfl⟩ := dup_of this
      exact ⟨u :: x, v, y, z, rfl⟩
/-- a written cycle: each node once, the smallest one first -/
structure WC (a : List (List Int)) (n : Nat) (l : List Nat) (w : Int) : Prop where
  cl : Cl a n l w
  nd : l.Nodup
  fst : ∀ h r, l = h :: r → ∀ x ∈ r, h < x
theorem min_mem : ∀ {l : List Nat}, l ≠ [] → ∃ m ∈ l, ∀ x ∈ l, m ≤ x
  | [], h => absurd rfl h
  | [u], _ => ⟨u, by simp, by simp⟩
  | u :: u' :: l, _ => by
    obtain ⟨m, hm, h⟩ := min_mem (l := u' :: l) (by simp)
    by_cases e : u ≤ m
    · exact ⟨u, by simp, fun x hx => by
        rcases List.mem_cons.1 hx with rfl | hx
        · exact Nat.le_refl _
        · exact Nat.le_trans e (h x hx)⟩
    · exact ⟨m, List.mem_cons_of_mem _ hm, fun x hx => by
        rcases List.mem_cons.1 hx with rfl | hx
        · omega
        · exact h x hx⟩
/-- from a closed chain to a written cycle, with a property that sums hand on to one of their parts -/
theorem Cl.written {a : List (List Int)} {n : Nat} {P : Nat → Int → Prop} (hP : ∀ k1 k2 w1 w2, P (k1 + k2) (w1 + w2) → P k1 w1 ∨ P k2 w2) : ∀ (k : Nat) {l : List Nat} {w : Int}, l.length = k → Cl a n l w → P l.length w → ∃ l' w', WC a n l' w' ∧ P l'.length w' ∧ ∀ x ∈ l', x ∈ l := by
  intro k
  induction k using Nat.strongRecOn with
  | _ k ih =>
    intro l w hk hc hp
    by_cases hd : l.Nodup
    · obtain ⟨m, hm, hmin⟩ := min_mem hc.ne
      obtain ⟨x, z, rfl⟩ := List.append_of_mem hm
      have hr := hc.rot
      refine ⟨m :: z ++ x, w, ⟨hr, ?_, fun h r e y hy => ?_⟩, by simpa [Nat.add_comm, Nat.add_left_comm, Nat.add_assoc] using hp, fun y hy => by
        simp only [List.mem_append, List.mem_cons] at hy ⊢
        rcases hy with (hy | hy) | hy
        · exact .inr (.inl hy)
        · exact .inr (.inr hy)
        · exact .inl hy⟩
      · rw [List.nodup_append] at hd ⊢
        exact ⟨hd.2.1, hd.1, fun b hb c hc e => hd.2.2 c hc b hb e.symm⟩
      · simp only [List.cons_append, List.cons.injEq] at e
        obtain ⟨rfl, rfl⟩ := e
        have h1 := hmin y (by
          simp only [List.mem_append, List.mem_cons] at hy ⊢
          rcases hy with hy | hy
          · exact .inr (.inr hy)
          · exact .inl hy)
        have h2 : y ≠ m := by
          rintro rfl
          rw [List.nodup_append] at hd
          rcases List.mem_append.1 hy with hy | hy
          · exact (List.nodup_cons.1 hd.2.1).1 hy
          · exact hd.2.2 y hy y List.mem_cons_self rfl
        omega
    · obtain ⟨x, v, y, z, rfl⟩ := dup_of hd
      obtain ⟨w1, w2, rfl, c1, c2⟩ := hc.cut
      have e : (x ++ v :: y ++ v :: z).length = (v :: y).length + (v :: z ++ x).length := by simp; omega
      rw [e] at hp hk
      rcases hP _ _ _ _ hp with hp | hp
      · obtain ⟨l', w', a1, a2, a3⟩ := ih _ (by rw [← hk]; simp) rfl c1 hp
        exact ⟨l', w', a1, a2, fun u hu => by
          have := a3 u hu
          simp only [List.mem_append, List.mem_cons] at this ⊢
          rcases this with h | h
          · exact .inl (.inr (.inl h))
          · exact .inl (.inr (.inr h))⟩
      · obtain ⟨l', w', a1, a2, a3⟩ := ih _ (by rw [← hk]; simp) rfl c2 hp
        exact ⟨l', w', a1, a2, fun u hu => by
          have := a3 u hu
          simp only [List.mem_append, List.mem_cons] at this ⊢
          rcases this with (h | h) | h
          · exact .inl (.inr (.inl h))
          · exact .inr (.inr h)
          · exact .inl (.inl h)⟩
namespace M
theorem bind_at {α β : Type} {m m' : M α} {f f' : α → M β} {n : Nat} (h : m n = m' n) (hf : ∀ x, f x n = f' x n) : bind m f n = bind m' f' n := by
  unfold bind
  rw [h]
  cases m' n with
  | none => rfl
  | some x => exact hf x
theorem ite_at {α : Type} {b : Bool} {x x' y y' : M α} {n : Nat} (h : x n = x' n) (g : y n = y' n) : ite b x y n = ite b x' y' n := by
  cases b
  · exact g
  · exact h
theorem for_at {σ ρ : Type} {lo hi : Int} {fin : σ → ρ} {f f' : Int → σ → M (σ ⊕ ρ)} {s : σ} {n : Nat} (h : ∀ i s, f i s n = f' i s n) : forI lo hi fin f s n = forI lo hi fin f' s n := by
  have key : ∀ (m : Nat) (i : Int) (s : σ), forN hi fin f n m i s = forN hi fin f' n m i s := by
    intro m
    induction m with
    | zero => intro i s; rfl
    | succ m ih =>
      intro i s
      unfold forN
      rw [h i s]
      cases decide (i < hi) with
      | false => rfl
      | true =>
        simp only [cond_true]
        cases f' i s n with
        | none => rfl
        | some y => cases y with
          | inl s' => exact ih _ _
          | inr r => rfl
  unfold forI
  rw [key]
theorem TC_at {α : Type} {m m' : M α} {Post : α → Prop} (N : Nat) (e : ∀ n, N ≤ n → m n = m' n) (h : TC m' Post) : TC m Post := by
  obtain ⟨r, ⟨N', h⟩, hp⟩ := h
  exact ⟨r, ⟨max N N', fun n hn => by rw [e n (by omega)]; exact h n (by omega)⟩, hp⟩
end M

theorem l01Has_ok {l : List Int} (x : Int) (h : l.length ≤ 9223372036854775807) : M.Conv (spec_l01Has l x) (l.any fun y => y == x) := by
  unfold spec_l01Has
  refine M.Conv_bind (M.Conv_all (fun y => !(y == x)) true h fun i y hy => ?_) ?_
  · refine M.Conv_bind (M.Conv_get (by omega) (by simpa using hy)) ?_
    cases y == x <;> exact M.Conv_ret _
  · have e : (l.all fun y => !(y == x)) = !(l.any fun y => y == x) := by
      rw [← any_not]; simp
    rw [e]
    cases l.any fun y => y == x <;> exact M.Conv_ret _
def growB (F : List Int → Int → M (List Int)) (a_ : List (List Int)) (over : Int) (path : List Int) (weight : Int) : M (List Int) := M.bind (M.idx path 0) (fun x1 => M.bind (M.idx path (w64 ((path.length : Int) - 1))) (fun x2 => M.bind (M.idx a_ x1) (fun x3 => M.bind (M.idx x3 x2) (fun x4 => M.bind (M.ite (x4 != (-1000000000000000)) (M.bind (M.idx a_ x1) (fun x6 => M.bind (M.idx x6 x2) (fun x7 => M.ret (decide (over < (w64 (weight + x7))))))) (M.ret false)) (fun x5 => M.ite x5 (M.ret path) (M.bind (M.forI (w64 (x1 + 1)) (a_.length : Int) (fun s => .inl s) (fun i1 => (fun (_ : Unit) => M.bind (M.idx a_ i1) (fun x9 => M.bind (M.idx x9 x2) (fun x10 => M.bind (M.ite (x10 == (-1000000000000000)) (M.ret true) (M.bind (spec_l01Has path i1) (fun x12 => M.ret x12))) (fun x11 => M.ite x11 (M.ret (.inl ())) (M.bind (M.bind (M.idx a_ i1) (fun x15 => M.bind (M.idx x15 x2) (fun x16 => M.bind (spec_l01Own path) (fun x17 => M.bind (M.app x17 ([i1] : List Int)) (fun l1 => M.bind (F l1 (w64 (weight + x16))) (fun x18 => M.ret x18)))))) (fun (s3 : (List Int)) => M.ite (decide (0 < (s3.length : Int))) (M.ret (.inr (.inr s3))) (M.ret (.inl ()))))))))) ()) (fun x8 => M.cont x8 (fun _ => M.ret ([] : List Int)) (fun r => M.ret r))))))))
theorem growR_eq (k : Nat) (a : List (List Int)) (over : Int) (path : List Int) (weight : Int) : spec_l03Grow_R (k + 1) a path weight over = growB (fun p w => spec_l03Grow_R k a p w over) a over path weight := rfl
def Gd (a : List (List Int)) (over : Int) (d : Nat) (path : List Int) (weight : Int) : M (List Int) := fun n => spec_l03Grow_R (n - d) a path weight over n
theorem growB_at {F G : List Int → Int → M (List Int)} {a : List (List Int)} {over : Int} {path : List Int} {weight : Int} {n : Nat} (h : ∀ p w, F p w n = G p w n) : growB F a over path weight n = growB G a over path weight n := by
  unfold growB
  refine M.bind_at rfl fun x1 => M.bind_at rfl fun x2 => M.bind_at rfl fun x3 => M.bind_at rfl fun x4 => M.bind_at rfl fun x5 => M.ite_at rfl (M.bind_at (M.for_at fun i s => ?_) fun x => rfl)
  exact M.bind_at rfl fun x9 => M.bind_at rfl fun x10 => M.bind_at rfl fun x11 => M.ite_at rfl (M.bind_at (M.bind_at rfl fun x15 => M.bind_at rfl fun x16 => M.bind_at rfl fun x17 => M.bind_at rfl fun l1 => M.bind_at (h _ _) fun _ => rfl) fun _ => rfl)
theorem Gd_step {a : List (List Int)} {over : Int} {d n : Nat} {path : List Int} {weight : Int} (h : d < n) : Gd a over d path weight n = growB (Gd a over (d + 1)) a over path weight n := by
  obtain ⟨k, hk⟩ : ∃ k, n - d = k + 1 := ⟨n - d - 1, by omega⟩
  show spec_l03Grow_R (n - d) a path weight over n = _
  rw [hk, growR_eq]
  refine growB_at fun p w => ?_
  show spec_l03Grow_R k a p w over n = spec_l03Grow_R (n - (d + 1)) a p w over n
  rw [show n - (d + 1) = k by omega]
abbrev toI (l : List Nat) : List Int := l.map fun (x : Nat) => (x : Int)
theorem toI_get {l : List Nat} {i x : Nat} (h : l[i]? = some x) : (toI l)[i]? = some (x : Int) := by simp [toI, h]
theorem toI_mem {l : List Nat} {x : Nat} : (x : Int) ∈ toI l ↔ x ∈ l := by
  unfold toI
  rw [List.mem_map]
  exact ⟨fun ⟨y, hy, e⟩ => by
    have : y = x := by omega
    rwa [this] at hy, fun h => ⟨x, h, rfl⟩⟩
/-- entries that are Bottom or not large -/
def Ent (a : List (List Int)) (n : Nat) (B : Int) : Prop := ∀ i j, i < n → j < n → entA a i j = -1000000000000000 ∨ (-B ≤ entA a i j ∧ entA a i j ≤ B)
theorem Chn.bd {a : List (List Int)} {n : Nat} {B : Int} (hB : Ent a n B) (h0 : 0 ≤ B) {l : List Nat} {w : Int} (h : Chn a n l w) : -(B * ((l.length - 1 : Nat) : Int)) ≤ w ∧ w ≤ B * ((l.length - 1 : Nat) : Int) := by
  induction h with
  | one v hv => simp
  | cons u v r w hu ha h ih =>
    have hv := h.lt v List.mem_cons_self
    have := (hB v u hv hu).resolve_left ha
    have e : (((u :: v :: r).length - 1 : Nat) : Int) = (((v :: r).length - 1 : Nat) : Int) + 1 := by simp
    rw [e, Int.mul_add, Int.mul_one]
    omega
theorem Chn.last_lt {a : List (List Int)} {n : Nat} {x : List Nat} {t : Nat} {w : Int} (h : Chn a n (x ++ [t]) w) : t < n := h.lt t (by simp)
theorem Chn.snoc {a : List (List Int)} {n : Nat} {x : List Nat} {t v : Nat} {w : Int} (h : Chn a n (x ++ [t]) w) (hv : v < n) (ha : entA a v t ≠ -1000000000000000) : Chn a n (x ++ [t] ++ [v]) (w + entA a v t) := by
  have h2 : Chn a n [t, v] (entA a v t) := by have := Chn.cons t v [] 0 h.last_lt ha (.one v hv); rwa [Int.add_zero] at this
  have := Chn.append h2 (x := x) h
  simpa using this
theorem Chn.snoc_inv {a : List (List Int)} {n : Nat} {x : List Nat} {t v : Nat} {w : Int} (h : Chn a n (x ++ [t] ++ [v]) w) : ∃ w', w = w' + entA a v t ∧ Chn a n (x ++ [t]) w' ∧ entA a v t ≠ -1000000000000000 := by
  have h : Chn a n (x ++ t :: [v]) w := by simpa using h
  obtain ⟨w1, w2, rfl, h1, h2⟩ := h.split
  cases h2 with
  | cons _ _ _ w3 _ ha h3 => cases h3; exact ⟨w1, by omega, h1, ha⟩
def GrowP (a : List (List Int)) (n : Nat) (over : Int) (pl : List Nat) (q : List Int) : Prop :=
  (q = [] ∧ ∀ l w', WC a n l w' → over < w' → ¬ pl <+: l) ∨ ∃ l w', q = toI l ∧ WC a n l w' ∧ over < w' ∧ pl <+: l
theorem grow_tc {a : List (List Int)} {n : Nat} (hs : Shp a n) (al : a.length = n) {over B : Int} (hB : Ent a n B) (h0 : 0 ≤ B) (hB2 : B ≤ 10000000000000) : ∀ (m d : Nat) (h t : Nat) (x : List Nat) (w : Int), (x ++ [t]).length + m = n → (x ++ [t]).head? = some h → (x ++ [t]).Nodup → (∀ y ∈ x ++ [t], h ≤ y) → Chn a n (x ++ [t]) w → M.TC (Gd a over d (toI (x ++ [t])) w) (GrowP a n over (x ++ [t])) := by
  have hrows := hs.rows
  intro m
  induction m with
  | zero => ?_
  | succ m ih => ?_
  all_goals
    intro d h t x w hm hh hnd hmin hc
    have hlen : (x ++ [t]).length ≤ n := nodup_lt n _ hnd hc.lt
    have ht := hc.last_lt
    have hhm : h ∈ x ++ [t] := List.mem_of_mem_head? (by rw [hh]; rfl)
    have hhn := hc.lt h hhm
    have bw := hc.bd hB h0
    have bw2 : -100000000000000 ≤ w ∧ w ≤ 100000000000000 := by
      have h9 : (((x ++ [t]).length - 1 : Nat) : Int) ≤ 10 := by omega
      have := Int.mul_le_mul hB2 h9 (by omega) (by omega)
      omega
    refine M.TC_at (d + 1) (fun k hk => Gd_step (by omega)) ?_
    have hpl : (toI (x ++ [t])).length = x.length + 1 := by simp
    have g0 : M.Conv (M.idx (toI (x ++ [t])) 0) (h : Int) := M.Conv_get (by omega) (toI_get (i := 0) (by rw [← List.head?_eq_getElem?]; exact hh))
    have g1 : M.Conv (M.idx (toI (x ++ [t])) (w64 (((toI (x ++ [t])).length : Int) - 1))) (t : Int) := by
      rw [hpl, w64_eq _ (by simp at hlen; omega)]
      exact M.Conv_get (by omega) (toI_get (i := (((x.length + 1 : Nat) : Int) - 1).toNat) (by rw [show (((x.length + 1 : Nat) : Int) - 1).toNat = x.length by omega]; simp))
    obtain ⟨r0, e1, _, e2⟩ := ent_read hs (i := h) (j := t) (by omega) ht
    have bht := hB h t hhn ht
    have chk : M.Conv (M.ite (entA a h t != (-1000000000000000)) (M.bind (M.idx a (h : Int)) (fun x6 => M.bind (M.idx x6 (t : Int)) (fun x7 => M.ret (decide (over < (w64 (w + x7))))))) (M.ret false)) ((entA a h t != (-1000000000000000)) && decide (over < w + entA a h t)) := by
      refine M.Conv_ite (fun q => M.Conv_bind e1 (M.Conv_bind e2 ((M.Conv_ret _).of ?_))) (fun q => (M.Conv_ret _).of (by rw [q]; rfl))
      have hne : entA a h t ≠ -1000000000000000 := by simpa using q
      rw [q, w64_eq _ (by omega)]; rfl
    unfold growB
    refine M.TC_bindC g0 (M.TC_bindC g1 (M.TC_bindC e1 (M.TC_bindC e2 (M.TC_bindC (x := (entA a h t != (-1000000000000000)) && decide (over < w + entA a h t)) chk (M.TC_ite (fun q => M.TC_ret ?_) (fun q => ?_))))))
    · simp only [Bool.and_eq_true, bne_iff_ne, ne_eq, decide_eq_true_eq] at q
      refine .inr ⟨x ++ [t], w + entA a h t, rfl, ⟨?_, hnd, fun h' r e y hy => ?_⟩, q.2, List.prefix_refl _⟩
      · cases hx : x ++ [t] with
        | nil => rw [hx] at hh; cases hh
        | cons h' r =>
          rw [hx] at hh
          have e9 : h' = h := by simpa using hh
          subst e9
          have := hc.snoc hhn q.1
          rw [hx] at this
          exact ⟨h', r, rfl, this⟩
      · rw [e] at hh hnd
        have e9 : h' = h := by simpa using hh
        subst e9
        have h1 := hmin y (by rw [e]; exact List.mem_cons_of_mem _ hy)
        have h2 : y ≠ h' := fun c => (List.nodup_cons.1 hnd).1 (c ▸ hy)
        omega
    · have closed : ∀ w', WC a n (x ++ [t]) w' → ¬ over < w' := fun w' hw hov => by
        obtain ⟨h', r, e, hcl⟩ := hw.cl
        rw [e] at hh
        have e9 : h' = h := by simpa using hh
        subst e9
        obtain ⟨w1, rfl, hc1, ha⟩ := hcl.snoc_inv
        have := hc.unique hc1
        subst this
        rw [show (entA a h' t != (-1000000000000000)) = true by simpa using ha, Bool.true_and, decide_eq_false_iff_not] at q
        exact q hov
      have ew : w64 ((h : Int) + 1) = ((h + 1 : Nat) : Int) := by rw [w64_eq _ (by omega)]; omega
      rw [ew, al]
      refine M.TC_bind (Mid := fun (y : Unit ⊕ List Int) => (y = .inl () ∧ ∀ v, h < v → v < n → ∀ l w', WC a n l w' → over < w' → ¬ (x ++ [t] ++ [v]) <+: l) ∨ ∃ q, y = .inr q ∧ GrowP a n over (x ++ [t]) q ∧ q ≠ []) (M.TC_for (fun i (_ : Unit) => ∀ v, h < v → (v : Int) < i → ∀ l w', WC a n l w' → over < w' → ¬ (x ++ [t] ++ [v]) <+: l) _ (by omega) (by omega) (fun v h1 h2 => by omega) (fun i s i0 i1 hI => ?_) (fun i s hi hI => .inl ⟨rfl, fun v h1 h2 => hI v h1 (by omega)⟩)) fun y hy => ?_
      · obtain ⟨v, rfl⟩ : ∃ v : Nat, i = v := ⟨i.toNat, by omega⟩
        have hv : v < n := by omega
        obtain ⟨rv, f1, _, f2⟩ := ent_read hs (i := v) (j := t) (by omega) ht
        have next : ((entA a v t == -1000000000000000) || (toI (x ++ [t])).any fun y => y == (v : Int)) = true → ∀ u, h < u → (u : Int) < (v : Int) + 1 → ∀ l w', WC a n l w' → over < w' → ¬ (x ++ [t] ++ [u]) <+: l := fun hb u h1 h2 l w' hw hov hp => by
          by_cases e : u = v
          · subst e
            obtain ⟨z, rfl⟩ := hp
            simp only [Bool.or_eq_true, beq_iff_eq, List.any_eq_true] at hb
            rcases hb with hb | ⟨y, hy, hyv⟩
            · obtain ⟨h', r, e, hcl⟩ := hw.cl
              rw [show x ++ [t] ++ [u] ++ z ++ [h'] = x ++ [t] ++ u :: (z ++ [h']) by simp] at hcl
              obtain ⟨w1, w2, _, c1, _⟩ := hcl.split
              obtain ⟨_, _, _, ha⟩ := c1.snoc_inv
              exact ha hb
            · subst hyv
              have hmem : u ∈ x ++ [t] := toI_mem.1 hy
              have := hw.nd
              rw [List.append_assoc, List.nodup_append] at this
              exact this.2.2 u hmem u (by simp) rfl
          · exact hI u h1 (by omega) l w' hw hov hp
        refine M.TC_bindC f1 (M.TC_bindC f2 (M.TC_bindC (x := (entA a v t == -1000000000000000) || (toI (x ++ [t])).any fun y => y == (v : Int)) (Conv_or fun _ => M.Conv_bind (l01Has_ok _ (by rw [hpl]; simp at hlen; omega)) (M.Conv_ret _)) (M.TC_ite (fun q2 => M.TC_ret (.inl ⟨_, rfl, next q2⟩)) (fun q2 => ?_))))
        simp only [Bool.or_eq_false_iff, beq_eq_false_iff_ne, ne_eq, List.any_eq_false, beq_iff_eq] at q2
        have hvn : v ∉ x ++ [t] := fun hm => q2.2 _ (toI_mem.2 hm) rfl
        have bvt := (hB v t hv ht).resolve_left q2.1
        have hnd2 : (x ++ [t] ++ [v]).Nodup := by
          rw [List.nodup_append]
          exact ⟨hnd, by simp, fun b hb c hc e => by simp at hc; subst hc; exact hvn (e ▸ hb)⟩
        have hc2 := hc.snoc hv q2.1
        have hlen2 := nodup_lt n _ hnd2 hc2.lt
        have eo : M.Conv (spec_l01Own (toI (x ++ [t]))) (toI (x ++ [t])) := spec_l01Own_ok (by unfold smI; rw [hpl]; simp at hlen; omega)
        have ea : M.Conv (M.app (toI (x ++ [t])) ([(v : Int)] : List Int)) (toI (x ++ [t] ++ [v])) := (M.Conv_app (by rw [hpl]; simp at hlen ⊢; omega)).of (by simp)
        have er : w64 (w + entA a v t) = w + entA a v t := w64_eq _ (by omega)
        first
        | exact absurd hlen2 (by simp at hm ⊢; omega)
        | (have rc := ih (d + 1) h v (x ++ [t]) (w + entA a v t) (by simp at hm ⊢; omega) (by rw [List.head?_append, hh]; rfl) hnd2 (fun y hy => by
            rcases List.mem_append.1 hy with hy | hy
            · exact hmin y hy
            · simp at hy; omega) hc2
           obtain ⟨q, cq, hq⟩ := rc
           refine M.TC_bindC (x := q) (M.Conv_bind f1 (M.Conv_bind f2 (M.Conv_bind eo (M.Conv_bind ea (M.Conv_bind (by rw [er]; exact cq) (M.Conv_ret _)))))) ?_
           rcases hq with ⟨rfl, hq⟩ | ⟨l, w', rfl, hw, hov, hp⟩
           · refine M.TC_ite (fun t => by simp at t) (fun _ => M.TC_ret (.inl ⟨_, rfl, fun u h1 h2 l w' hw hov hp => ?_⟩))
             by_cases e : u = v
             · subst e; exact hq l w' hw hov hp
             · exact hI u h1 (by omega) l w' hw hov hp
           · have hne : toI l ≠ [] := by
               obtain ⟨_, _, e, _⟩ := hw.cl
               rw [e]; simp
             refine M.TC_ite (fun _ => M.TC_ret (.inr ⟨_, rfl, .inr ⟨_, rfl, .inr ⟨l, w', rfl, hw, hov, (List.prefix_append _ _).trans hp⟩, hne⟩⟩)) (fun t => ?_)
             have := List.length_pos_iff.2 hne
             have t := of_decide_eq_false t
             omega)
      · rcases hy with ⟨rfl, hy⟩ | ⟨q, rfl, hq, _⟩
        · refine M.TC_ret (.inl ⟨rfl, fun l w' hw hov hp => ?_⟩)
          obtain ⟨z, rfl⟩ := hp
          cases z with
          | nil => rw [List.append_nil] at hw; exact closed w' hw hov
          | cons v z =>
            have hv : v < n := hw.cl.lt v (by simp)
            have hhv : h < v := by
              cases hx : x ++ [t] with
              | nil => rw [hx] at hh; cases hh
              | cons h' r =>
                rw [hx] at hh
                have e9 : h' = h := by simpa using hh
                subst e9
                exact hw.fst h' (r ++ v :: z) (by rw [hx]; rfl) v (by simp)
            exact hy v hhv hv _ w' hw hov ⟨z, by simp⟩
        · exact M.TC_ret hq
/-- the first written cycle of more weight than some number -/
theorem over_tc {a : List (List Int)} {n : Nat} (hs : Shp a n) (al : a.length = n) {over B : Int} (hB : Ent a n B) (h0 : 0 ≤ B) (hB2 : B ≤ 10000000000000) : M.TC (spec_l03Over a over) (fun q => (q = [] ∧ ∀ l w, WC a n l w → ¬ over < w) ∨ ∃ l w, q = toI l ∧ WC a n l w ∧ over < w) := by
  have hrows := hs.rows
  unfold spec_l03Over
  rw [al]
  refine M.TC_bind (M.TC_forE (fun v (_ : Unit) => ∀ u, u < v → ∀ l w, WC a n l w → over < w → ¬ [u] <+: l) (fun q => ∃ l w, q = toI l ∧ WC a n l w ∧ over < w) (by omega) (fun u hu => by omega) (fun v s hv hI => ?_)) fun y hy => ?_
  · have := grow_tc hs al (over := over) hB h0 hB2 (n - 1) 0 v v [] 0 (by simp; omega) rfl (by simp) (by simp) (.one v hv)
    obtain ⟨q, cq, hq⟩ := this
    have cq : M.Conv (spec_l03Grow a ([(v : Int)] : List Int) 0 over) q := cq
    refine M.TC_bindC cq ?_
    rcases hq with ⟨rfl, hq⟩ | ⟨l, w, rfl, hw, hov, hp⟩
    · refine M.TC_ite (fun t => by simp at t) (fun _ => M.TC_ret (.inl ⟨_, rfl, fun u hu l w hw hov hp => ?_⟩))
      by_cases e : u = v
      · subst e; exact hq l w hw hov hp
      · exact hI u (by omega) l w hw hov hp
    · have hne : toI l ≠ [] := by
        obtain ⟨_, _, e, _⟩ := hw.cl
        rw [e]; simp
      refine M.TC_ite (fun _ => M.TC_ret (.inr ⟨_, rfl, l, w, rfl, hw, hov⟩)) (fun t => ?_)
      have := List.length_pos_iff.2 hne
      have t := of_decide_eq_false t
      omega
  · rcases hy with ⟨s, rfl, hy⟩ | ⟨q, rfl, hq⟩
    · refine M.TC_ret (.inl ⟨rfl, fun l w hw hov => ?_⟩)
      obtain ⟨h, r, e, _⟩ := id hw.cl
      exact hy h (hw.cl.lt h (by rw [e]; simp)) l w hw hov (by rw [e]; exact ⟨r, rfl⟩)
    · exact M.TC_ret (.inr hq)

/-- a walk from j of k arcs -/
inductive Wlk (a : List (List Int)) (n j : Nat) : Nat → Nat → Int → Prop
  | nil : j < n → Wlk a n j 0 j 0
  | step (k i i' : Nat) (w : Int) : Wlk a n j k i w → i' < n → entA a i' i ≠ -1000000000000000 → Wlk a n j (k + 1) i' (w + entA a i' i)
theorem Wlk.lt {a : List (List Int)} {n j k i : Nat} {w : Int} (h : Wlk a n j k i w) : j < n ∧ i < n := by
  induction h with
  | nil hj => exact ⟨hj, hj⟩
  | step k i i' w _ hi _ ih => exact ⟨ih.1, hi⟩
theorem Wlk.trans {a : List (List Int)} {n j k i k' i' : Nat} {w w' : Int} (h : Wlk a n j k i w) (g : Wlk a n i k' i' w') : Wlk a n j (k + k') i' (w + w') := by
  induction g with
  | nil _ => simpa using h
  | step k' i1 i2 w' _ hi ha ih => rw [← Int.add_assoc]; exact .step _ _ _ _ ih hi ha
theorem Wlk.chn {a : List (List Int)} {n j k i : Nat} {w : Int} (h : Wlk a n j k i w) : ∃ x, Chn a n (x ++ [i]) w ∧ (x ++ [i]).head? = some j ∧ x.length = k := by
  induction h with
  | nil hj => exact ⟨[], .one j hj, rfl, rfl⟩
  | step k i i' w _ hi ha ih =>
    obtain ⟨x, h1, h2, h3⟩ := ih
    exact ⟨x ++ [i], h1.snoc hi ha, by rw [List.head?_append, h2]; rfl, by simp [h3]⟩
theorem Wlk.of_chn {a : List (List Int)} {n : Nat} : ∀ (k : Nat) {j i : Nat} {w : Int} {x : List Nat}, Chn a n (x ++ [i]) w → (x ++ [i]).head? = some j → x.length = k → Wlk a n j k i w
  | 0, j, i, w, x, h, hh, hl => by
    have := List.eq_nil_of_length_eq_zero hl
    subst this
    have e : i = j := by simpa using hh
    subst e
    cases h with
    | one _ hv => exact .nil hv
  | k + 1, j, i, w, x, h, hh, hl => by
    rcases List.eq_nil_or_concat x with rfl | ⟨y, t, e⟩
    · simp at hl
    · have e : x = y ++ [t] := by simpa using e
      subst e
      obtain ⟨w', rfl, h1, ha⟩ := h.snoc_inv
      rw [List.head?_append] at hh
      have hh2 : (y ++ [t]).head? = some j := by
        cases hy : (y ++ [t]).head? with
        | none => simp at hy
        | some v => rw [hy] at hh; simpa using hh
      exact .step k t i w' (Wlk.of_chn k h1 hh2 (by simpa using hl)) (h.lt i (by simp)) ha
theorem Cl.wlk {a : List (List Int)} {n : Nat} {l : List Nat} {w : Int} (h : Cl a n l w) : ∃ j r, l = j :: r ∧ Wlk a n j l.length j w := by
  obtain ⟨j, r, rfl, hc⟩ := h
  exact ⟨j, r, rfl, Wlk.of_chn _ hc rfl rfl⟩
theorem Wlk.cl {a : List (List Int)} {n j k : Nat} {w : Int} (h : Wlk a n j (k + 1) j w) : ∃ r, Cl a n (j :: r) w ∧ r.length = k := by
  obtain ⟨x, h1, h2, h3⟩ := h.chn
  cases x with
  | nil => simp at h3
  | cons v r =>
    have e : v = j := by simpa using h2
    subst e
    exact ⟨r, ⟨v, r, rfl, h1⟩, by simpa using h3⟩
def NoPos (a : List (List Int)) (n : Nat) : Prop := ∀ l w, Cl a n l w → w ≤ 0
/-- a walk of fewer than n arcs is as good as any -/
theorem Wlk.short {a : List (List Int)} {n : Nat} (hp : NoPos a n) : ∀ (k : Nat) {j i : Nat} {w : Int}, Wlk a n j k i w → ∃ k' w', Wlk a n j k' i w' ∧ k' < n ∧ k' ≤ k ∧ w ≤ w' := by
  intro k
  induction k using Nat.strongRecOn with
  | _ k ih =>
    intro j i w h
    by_cases hk : k < n
    · exact ⟨k, w, h, hk, Nat.le_refl _, Int.le_refl _⟩
    · obtain ⟨x, h1, h2, h3⟩ := h.chn
      have hnn : ¬ (x ++ [i]).Nodup := fun hd => by
        have := nodup_lt n _ hd h1.lt
        simp at this; omega
      obtain ⟨p, v, y, z, e⟩ := dup_of hnn
      have e' : x ++ [i] = p ++ v :: (y ++ v :: z) := by rw [e]; simp
      rw [e'] at h1
      obtain ⟨w1, w2, rfl, c1, c2⟩ := h1.split
      obtain ⟨w3, w4, rfl, c3, c4⟩ := Chn.split (x := v :: y) c2
      have hcyc := hp (v :: y) w3 ⟨v, y, rfl, c3⟩
      have hc := Chn.append c4 c1
      -- the last node is that of z
      have hlast : ∃ x', p ++ v :: z = x' ++ [i] ∧ x'.length < k := by
        have hl : (p ++ v :: (y ++ v :: z)).getLast? = some i := by rw [← e']; simp
        rcases List.eq_nil_or_concat (v :: z) with hz | ⟨z', t, hz⟩
        · simp at hz
        · have hz : v :: z = z' ++ [t] := by simpa using hz
          have ht : t = i := by
            have e3 : p ++ v :: (y ++ v :: z) = (p ++ v :: y ++ z') ++ [t] := by rw [hz]; simp
            rw [e3, List.getLast?_concat] at hl
            exact Option.some.inj hl
          subst ht
          refine ⟨p ++ z', by rw [hz]; simp, ?_⟩
          have e4 := congrArg List.length e'
          have e5 := congrArg List.length hz
          simp at e4 e5 ⊢
          omega
      obtain ⟨x', hx', hxl⟩ := hlast
      rw [hx'] at hc
      have hhd : (x' ++ [i]).head? = some j := by
        rw [← hx']
        rw [e'] at h2
        cases p with
        | nil => simpa using h2
        | cons q p => simpa using h2
      obtain ⟨k', w', g1, g2, g3, g4⟩ := ih _ hxl (Wlk.of_chn _ hc hhd rfl)
      exact ⟨k', w', g1, g2, by omega, by omega⟩
theorem Wlk.bd {a : List (List Int)} {n : Nat} {B : Int} (hB : Ent a n B) {j k i : Nat} {w : Int} (h : Wlk a n j k i w) : -(B * (k : Int)) ≤ w ∧ w ≤ B * (k : Int) := by
  induction h with
  | nil _ => simp
  | step k i i' w hw hi ha ih =>
    have := (hB i' i hi hw.lt.2).resolve_left ha
    rw [Int.natCast_add, Int.mul_add]
    simp only [Int.natCast_one, Int.mul_one]
    omega
/-- what the star of a matrix without positive cycles is -/
structure StarM (a : List (List Int)) (n : Nat) (S : List (List Int)) : Prop where
  shp : Shp S n
  len : S.length = n
  snd : ∀ i j, i < n → j < n → entA S i j = -1000000000000000 ∨ ∃ k, Wlk a n j k i (entA S i j)
  cpl : ∀ i j k w, Wlk a n j k i w → entA S i j ≠ -1000000000000000 ∧ w ≤ entA S i j
theorem StarM.bd {a S : List (List Int)} {n : Nat} {B : Int} (hp : NoPos a n) (hB : Ent a n B) (h0 : 0 ≤ B) (hn : n ≤ 10) (h : StarM a n S) {i j : Nat} (hi : i < n) (hj : j < n) : Bd (B * 10) (entA S i j) := by
  rcases h.snd i j hi hj with e | ⟨k, hk⟩
  · exact .inl e
  · right
    obtain ⟨k', w', g1, g2, _, g4⟩ := hk.short hp
    have b := g1.bd hB
    have c := (h.cpl i j k' w' g1).2
    have hkk : (k' : Int) ≤ 10 := by omega
    have := Int.mul_le_mul_of_nonneg_left hkk h0
    omega
theorem StarM.unique {a S T : List (List Int)} {n : Nat} (h : StarM a n S) (g : StarM a n T) : S = T := by
  rw [mat_eq h.shp, mat_eq g.shp, h.len, g.len]
  refine matF_congr fun i j hi hj => ?_
  by_cases e : entA S i j = -1000000000000000
  · rcases g.snd i j hi hj with e2 | ⟨k, hk⟩
    · rw [e, e2]
    · exact absurd e (h.cpl i j k _ hk).1
  · obtain ⟨k, hk⟩ := (h.snd i j hi hj).resolve_left e
    have c1 := g.cpl i j k _ hk
    obtain ⟨k2, hk2⟩ := (g.snd i j hi hj).resolve_left c1.1
    have c2 := h.cpl i j k2 _ hk2
    omega
theorem dotL_ok2 {x row : List Int} (hl : x.length = row.length) {B : Int} (hB : B ≤ 400000000000000) (hr : ∀ j, j < row.length → Bd B (nd row j)) (hx : ∀ j, j < row.length → Bd B (nd x j)) : DotP (nd row) (nd x) row.length (dotL x row) := by
  have key := foldI_at (g := fun j v s => mx s (timesI v ((x[j]?).getD 0))) (a := row) (fun k (s : Int) => k ≤ row.length ∧ -1000000000000000 ≤ s ∧ (∀ j, j < k → nd row j ≠ -1000000000000000 → nd x j ≠ -1000000000000000 → nd row j + nd x j ≤ s) ∧ (s = -1000000000000000 ∨ ∃ j, j < k ∧ nd row j ≠ -1000000000000000 ∧ nd x j ≠ -1000000000000000 ∧ s = nd row j + nd x j)) row 0 (-1000000000000000) (fun k => by simp) ⟨by omega, by omega, fun j hj => by omega, .inl rfl⟩ (fun k v s hv hI => by
    obtain ⟨_, i1, i2, i3⟩ := hI
    have hk := (List.getElem?_eq_some_iff.1 hv).1
    have ev := nd_of hv
    have b1 := hr k hk
    have b2 := hx k hk
    unfold Bd at b1 b2
    have et : timesI v ((x[k]?).getD 0) = bif (v == (-1000000000000000)) || (nd x k == (-1000000000000000)) then -1000000000000000 else v + nd x k := by
      change timesI v (nd x k) = _
      unfold timesI
      cases hz : ((v == (-1000000000000000)) || (nd x k == (-1000000000000000))) with
      | true => rfl
      | false =>
        simp only [Bool.or_eq_false_iff, beq_eq_false_iff_ne, ne_eq] at hz
        simp only [cond_false]
        exact w64_eq _ (by omega)
    refine ⟨by omega, by rw [mx_eq]; omega, fun j hj h1 h2 => ?_, ?_⟩
    · rw [mx_eq]
      by_cases e : j = k
      · subst e
        rw [et, show (v == (-1000000000000000)) = false by rw [← ev]; simpa using h1, show (nd x j == (-1000000000000000)) = false by simpa using h2]
        simp only [Bool.or_self, cond_false]; omega
      · have := i2 j (by omega) h1 h2
        omega
    · rw [mx_eq, et]
      have old : s = -1000000000000000 ∨ ∃ j, j < k + 1 ∧ nd row j ≠ -1000000000000000 ∧ nd x j ≠ -1000000000000000 ∧ s = nd row j + nd x j := i3.imp id fun ⟨j, hj, h⟩ => ⟨j, by omega, h⟩
      cases hz : ((v == (-1000000000000000)) || (nd x k == (-1000000000000000))) with
      | true =>
        simp only [cond_true]
        rw [show max s (-1000000000000000) = s by omega]
        exact old
      | false =>
        simp only [Bool.or_eq_false_iff, beq_eq_false_iff_ne, ne_eq] at hz
        simp only [cond_false]
        by_cases e : s ≤ v + nd x k
        · rw [show max s (v + nd x k) = v + nd x k by omega]
          exact .inr ⟨k, by omega, by rw [ev]; exact hz.1, hz.2, by rw [ev]⟩
        · rw [show max s (v + nd x k) = s by omega]
          exact old)
  obtain ⟨_, _, k2, k3⟩ := key
  rw [Nat.zero_add] at k2 k3
  exact ⟨k2, k3⟩
theorem mul_dot2 {A C : List (List Int)} {n w : Nat} (hA : Shp A n) (hC : Shp C w) (hn : C.length = n) {B : Int} (hB : B ≤ 400000000000000) (bA : ∀ i j, i < A.length → j < n → Bd B (entA A i j)) (bC : ∀ j k, j < n → k < w → Bd B (entA C j k)) {i k : Nat} (hi : i < A.length) (hk : k < w) :
    DotP (entA A i) (fun j => entA C j k) n (entA (mulM A C) i k) := by
  have hrl := hA.row _ (List.mem_of_getElem? (rowN_get hi))
  have hcl : (colL C k).length = C.length := tab_len _ _
  have he : entA (mulM A C) i k = dotL (colL C k) (rowN A i) := by
    rw [mulM_eq]
    exact entA_matF hi (by rw [shp_width hC]; exact hk)
  have := dotL_ok2 (x := colL C k) (row := rowN A i) (by omega) hB (fun j hj => by rw [nd_row hi]; exact bA i j hi (by omega)) (fun j hj => by rw [nd_col (by omega)]; exact bC j k (by omega) hk)
  rw [hrl, ← he] at this
  exact this.congr (fun j _ => nd_row hi) (fun j hj => nd_col (by omega))
structure StK (a : List (List Int)) (n k : Nat) (S : List (List Int)) : Prop where
  shp : Shp S n
  len : S.length = n
  snd : ∀ i j, i < n → j < n → entA S i j = -1000000000000000 ∨ ∃ k', k' ≤ k ∧ Wlk a n j k' i (entA S i j)
  cpl : ∀ i j k' w, k' ≤ k → Wlk a n j k' i w → entA S i j ≠ -1000000000000000 ∧ w ≤ entA S i j
theorem StK.bd {a S : List (List Int)} {n k : Nat} {B : Int} (hB : Ent a n B) (h0 : 0 ≤ B) (h : StK a n k S) {m : Int} (hm : (k : Int) ≤ m) {i j : Nat} (hi : i < n) (hj : j < n) : Bd (B * m) (entA S i j) := by
  rcases h.snd i j hi hj with e | ⟨k', h1, hk⟩
  · exact .inl e
  · right
    have b := hk.bd hB
    have := Int.mul_le_mul_of_nonneg_left (show (k' : Int) ≤ m by omega) h0
    omega
theorem stk_step {a S : List (List Int)} {n k : Nat} {B : Int} (ha : Shp a n) (al : a.length = n) (hB : Ent a n B) (h0 : 0 ≤ B) (hB2 : B ≤ 10000000000) (hk : k ≤ 20) (h : StK a n k S) : StK a n (k + 1) (addM (unitM n) (mulM a S) n n) := by
  have hn := ha.rows
  have hSb : ∀ i j, i < n → j < n → Bd 400000000000 (entA S i j) := fun i j hi hj => by
    have := h.bd hB h0 (m := 20) (by omega) hi hj
    unfold Bd at *; omega
  have hab : ∀ i j, i < a.length → j < n → Bd 400000000000 (entA a i j) := fun i j hi hj => by
    have := hB i j (by omega) hj
    unfold Bd; omega
  have hd : ∀ i j, i < n → j < n → DotP (entA a i) (fun m => entA S m j) n (entA (mulM a S) i j) := fun i j hi hj => mul_dot2 ha h.shp h.len (B := 400000000000) (by omega) hab hSb (by omega) hj
  have hen : ∀ i j, i < n → j < n → entA (addM (unitM n) (mulM a S) n n) i j = mx (if i = j then 0 else -1000000000000000) (entA (mulM a S) i j) := fun i j hi hj => by
    unfold addM
    rw [entA_matF hi hj, unit_ent hi hj]
  refine ⟨shp_of (by omega) (by omega), matF_len _ _ _, fun i j hi hj => ?_, fun i j k' w hk' hw => ?_⟩
  · rw [hen i j hi hj, mx_eq]
    have hdot : entA (mulM a S) i j = -1000000000000000 ∨ ((-500000000000 ≤ entA (mulM a S) i j ∧ entA (mulM a S) i j ≤ 500000000000) ∧ ∃ k', k' ≤ k + 1 ∧ Wlk a n j k' i (entA (mulM a S) i j)) := by
      rcases (hd i j hi hj).on with e | ⟨m, hm, n1, n2, e⟩
      · exact .inl e
      · right
        obtain ⟨k', h1, hw⟩ := (h.snd m j hm hj).resolve_left n2
        have b1 := hSb m j hm hj
        have b2 := hB i m hi hm
        unfold Bd at b1
        refine ⟨by omega, k' + 1, by omega, ?_⟩
        rw [e, Int.add_comm]
        exact .step _ _ _ _ hw hi n1
    by_cases e : i = j
    · subst e
      rw [if_pos rfl]
      rcases hdot with e | ⟨_, hw⟩
      · rw [e]; exact .inr ⟨0, by omega, .nil hi⟩
      · by_cases e2 : entA (mulM a S) i i ≤ 0
        · rw [show max 0 (entA (mulM a S) i i) = 0 by omega]; exact .inr ⟨0, by omega, .nil hi⟩
        · rw [show max 0 (entA (mulM a S) i i) = entA (mulM a S) i i by omega]; exact .inr hw
    · rw [if_neg e]
      rcases hdot with e | ⟨e1, hw⟩
      · rw [e]; exact .inl rfl
      · rw [show max (-1000000000000000) (entA (mulM a S) i j) = entA (mulM a S) i j by omega]; exact .inr hw
  · have hij := hw.lt
    rw [hen i j hij.2 hij.1, mx_eq]
    cases hw with
    | nil hj => rw [if_pos rfl]; omega
    | step k' m _ w' hw' _ ha' =>
      have hm := hw'.lt.2
      have c := h.cpl m j k' w' (by omega) hw'
      have := (hd i j hij.2 hij.1).up m hm ha' c.1
      have b1 := hSb m j hm hij.1
      have b2 := hB i m hij.2 hm
      unfold Bd at b1
      split <;> omega
theorem star_pow {a : List (List Int)} {n : Nat} {B : Int} (ha : Shp a n) (al : a.length = n) (hB : Ent a n B) (h0 : 0 ≤ B) (hB2 : B ≤ 10000000000) : ∃ S b, M.Conv (spec_l03Star a) (S, b) ∧ StK a n n S := by
  have hn := ha.rows
  have hu := unit_mat (n := n) (by omega)
  have h00 : StK a n 0 (stM a n 0) := by
    refine ⟨hu.shp, matF_len _ _ _, fun i j hi hj => ?_, fun i j k' w hk' hw => ?_⟩
    · show entA (unitM n) i j = _ ∨ ∃ k', k' ≤ 0 ∧ Wlk a n j k' i (entA (unitM n) i j)
      rw [unit_ent hi hj]
      by_cases e : i = j
      · subst e; rw [if_pos rfl]; exact .inr ⟨0, by omega, .nil hi⟩
      · rw [if_neg e]; exact .inl rfl
    · show entA (unitM n) i j ≠ _ ∧ w ≤ entA (unitM n) i j
      cases hw with
      | nil hj => rw [unit_ent hj hj, if_pos rfl]; omega
      | step => omega
  have hk : ∀ k, k ≤ 11 → StK a n k (stM a n k) := by
    intro k
    induction k with
    | zero => exact fun _ => h00
    | succ k ih => exact fun hk => stk_step ha al hB h0 hB2 (by omega) (ih (by omega))
  have round : ∀ k, k ≤ 10 → M.Conv (spec_l02Multiply a (stM a n k)) (mulM a (stM a n k)) ∧ M.Conv (spec_l02Add (unitM n) (mulM a (stM a n k))) (stM a n (k + 1)) := fun k hk10 => by
    have h := hk k (by omega)
    have hm := mulM_shp ha h.shp
    refine ⟨spec_l02Multiply_ok ha h.shp h.len, ?_⟩
    have := spec_l02Add_ok hu.shp hm (by rw [mulM_eq, matF_len]; exact (al.trans (matF_len _ _ _).symm))
    rwa [show (unitM n).length = n from matF_len _ _ _] at this
  unfold spec_l03Star
  rw [al]
  obtain ⟨r1, r2⟩ := round n (by omega)
  obtain ⟨b, hb⟩ := same_tc (a := stM a n (n + 1)) (b := stM a n n) (hk (n + 1) (by omega)).shp (hk n (by omega)).shp (by rw [(hk (n + 1) (by omega)).len, (hk n (by omega)).len])
  refine ⟨stM a n n, b, ?_, hk n (by omega)⟩
  refine M.Conv_bind (spec_l02Unit_ok (by omega)) (M.Conv_bind (x := stM a n n) ?_ (M.Conv_bind (spec_l02Unit_ok (by omega)) (M.Conv_bind r1 (M.Conv_bind r2 (M.Conv_bind hb (M.Conv_ret _))))))
  refine Conv_forV (fun k => stM a n k) (by omega) fun k hkn => ?_
  obtain ⟨r1, r2⟩ := round k (by omega)
  exact M.Conv_bind (spec_l02Unit_ok (by omega)) (M.Conv_bind r1 (M.Conv_bind r2 (M.Conv_ret _)))
theorem StK.star {a S : List (List Int)} {n : Nat} (hp : NoPos a n) (h : StK a n n S) : StarM a n S :=
  ⟨h.shp, h.len, fun i j hi hj => (h.snd i j hi hj).imp id fun ⟨k, _, hk⟩ => ⟨k, hk⟩, fun i j k w hw => by
    obtain ⟨k', w', g1, g2, _, g4⟩ := hw.short hp
    have := h.cpl i j k' w' (by omega) g1
    exact ⟨this.1, by omega⟩⟩
structure WarK (a : List (List Int)) (n k : Nat) (B : Int) (R : Nat → Nat → Int) : Prop where
  snd : ∀ i j, i < n → j < n → R i j = -1000000000000000 ∨ ((∃ m, Wlk a n j m i (R i j)) ∧ -(B * ((2 ^ k : Nat) : Int)) ≤ R i j ∧ R i j ≤ B * ((2 ^ k : Nat) : Int))
  dia : ∀ i, i < n → R i i = 0
  arc : ∀ i j, i < n → j < n → entA a i j ≠ -1000000000000000 → R i j ≠ -1000000000000000 ∧ entA a i j ≤ R i j
  tri : ∀ m i j, m < k → i < n → j < n → R i m ≠ -1000000000000000 → R m j ≠ -1000000000000000 → R i j ≠ -1000000000000000 ∧ R i m + R m j ≤ R i j
def warS (R : Nat → Nat → Int) (k i j : Nat) : Int := mx (R i j) (timesI (R i k) (R k j))
theorem NoPos.closed {a : List (List Int)} {n j m : Nat} {w : Int} (hp : NoPos a n) (h : Wlk a n j m j w) : w ≤ 0 := by
  cases m with
  | zero => cases h; exact Int.le_refl _
  | succ m =>
    obtain ⟨r, hc, _⟩ := h.cl
    exact hp _ _ hc
theorem pow_bd {k : Nat} (hk : k ≤ 10) {B : Int} (h0 : 0 ≤ B) (hB2 : B ≤ 10000000000) : 0 ≤ B * ((2 ^ k : Nat) : Int) ∧ B * ((2 ^ k : Nat) : Int) ≤ 20000000000000 := by
  have h1 : (2 ^ k : Nat) ≤ 2 ^ 10 := Nat.pow_le_pow_right (by omega) hk
  generalize (2 ^ k : Nat) = m at h1 ⊢
  have h1 : (m : Int) ≤ 1024 := by omega
  have h2 := Int.mul_le_mul hB2 h1 (by omega) (by omega)
  exact ⟨Int.mul_nonneg h0 (by omega), by omega⟩
theorem war_step {a : List (List Int)} {n k : Nat} {B : Int} {R : Nat → Nat → Int} (hp : NoPos a n) (h0 : 0 ≤ B) (hB2 : B ≤ 10000000000) (hn : n ≤ 10) (hk : k < n) (h : WarK a n k B R) : WarK a n (k + 1) B (warS R k) ∧ (∀ i, i < n → warS R k i k = R i k) ∧ ∀ j, j < n → warS R k k j = R k j := by
  have pb := pow_bd (k := k) (by omega) h0 hB2
  have e2 : B * ((2 ^ (k + 1) : Nat) : Int) = B * ((2 ^ k : Nat) : Int) * 2 := by
    rw [Nat.pow_succ, Int.natCast_mul, ← Int.mul_assoc]; rfl
  have bR : ∀ i j, i < n → j < n → R i j = -1000000000000000 ∨ (-20000000000000 ≤ R i j ∧ R i j ≤ 20000000000000) := fun i j hi hj => (h.snd i j hi hj).imp id fun ⟨_, b⟩ => by omega
  have tim : ∀ i j, i < n → j < n → (R i k = -1000000000000000 ∨ R k j = -1000000000000000) ∧ timesI (R i k) (R k j) = -1000000000000000 ∨ (R i k ≠ -1000000000000000 ∧ R k j ≠ -1000000000000000 ∧ timesI (R i k) (R k j) = R i k + R k j) := fun i j hi hj => by
    have b1 := bR i k hi hk
    have b2 := bR k j hk hj
    unfold timesI
    cases hz : ((R i k == (-1000000000000000)) || (R k j == (-1000000000000000))) with
    | true => left; exact ⟨by simpa using hz, rfl⟩
    | false =>
      simp only [Bool.or_eq_false_iff, beq_eq_false_iff_ne, ne_eq] at hz
      exact .inr ⟨hz.1, hz.2, w64_eq _ (by omega)⟩
  have val : ∀ i j, i < n → j < n → warS R k i j = max (R i j) (timesI (R i k) (R k j)) := fun i j _ _ => mx_eq _ _
  have dk := h.dia k hk
  have colk : ∀ i, i < n → warS R k i k = R i k := fun i hi => by
    rw [val i k hi hk]
    rcases tim i k hi hk with ⟨_, e⟩ | ⟨_, _, e⟩
    · have := bR i k hi hk; omega
    · omega
  have rowk : ∀ j, j < n → warS R k k j = R k j := fun j hj => by
    rw [val k j hk hj]
    rcases tim k j hk hj with ⟨_, e⟩ | ⟨_, _, e⟩
    · have := bR k j hk hj; omega
    · omega
  have ge : ∀ i j, i < n → j < n → R i j ≤ warS R k i j := fun i j hi hj => by rw [val i j hi hj]; omega
  have ne : ∀ i j, i < n → j < n → R i j ≠ -1000000000000000 → warS R k i j ≠ -1000000000000000 := fun i j hi hj hne => by
    have := ge i j hi hj
    have := bR i j hi hj
    omega
  have via : ∀ i j, i < n → j < n → R i k ≠ -1000000000000000 → R k j ≠ -1000000000000000 → warS R k i j ≠ -1000000000000000 ∧ R i k + R k j ≤ warS R k i j := fun i j hi hj n1 n2 => by
    rw [val i j hi hj]
    rcases tim i j hi hj with ⟨h3, _⟩ | ⟨_, _, e⟩
    · rcases h3 with h3 | h3
      · exact absurd h3 n1
      · exact absurd h3 n2
    · have := bR i k hi hk
      have := bR k j hk hj
      omega
  have wk : ∀ i j, i < n → j < n → warS R k i j = -1000000000000000 ∨ ((∃ m, Wlk a n j m i (warS R k i j)) ∧ -(B * ((2 ^ (k + 1) : Nat) : Int)) ≤ warS R k i j ∧ warS R k i j ≤ B * ((2 ^ (k + 1) : Nat) : Int)) := fun i j hi hj => by
    rw [val i j hi hj, e2]
    have b := h.snd i j hi hj
    have b0 := bR i j hi hj
    rcases tim i j hi hj with ⟨_, e⟩ | ⟨n1, n2, e⟩
    · rw [e]
      rcases b with b | ⟨b1, b2⟩
      · left; omega
      · right
        rw [show max (R i j) (-1000000000000000) = R i j by omega]
        exact ⟨b1, by omega⟩
    · rw [e]
      obtain ⟨⟨m1, w1⟩, b1⟩ := (h.snd i k hi hk).resolve_left n1
      obtain ⟨⟨m2, w2⟩, b2⟩ := (h.snd k j hk hj).resolve_left n2
      by_cases hle : R i j ≤ R i k + R k j
      · right
        rw [show max (R i j) (R i k + R k j) = R i k + R k j by omega]
        exact ⟨⟨m2 + m1, by rw [Int.add_comm]; exact w2.trans w1⟩, by omega⟩
      · rw [show max (R i j) (R i k + R k j) = R i j by omega]
        rcases b with b | ⟨b3, b4⟩
        · exact .inl b
        · exact .inr ⟨b3, by omega⟩
  refine ⟨⟨wk, fun i hi => ?_, fun i j hi hj ha => ?_, fun m i j hm hi hj n1 n2 => ?_⟩, colk, rowk⟩
  · have h1 := ge i i hi hi
    rw [h.dia i hi] at h1
    rcases wk i i hi hi with e | ⟨⟨m, w⟩, _⟩
    · omega
    · have := hp.closed w
      omega
  · have := h.arc i j hi hj ha
    exact ⟨ne i j hi hj this.1, Int.le_trans this.2 (ge i j hi hj)⟩
  · by_cases e : m = k
    · subst e
      rw [colk i hi] at n1 ⊢
      rw [rowk j hj] at n2 ⊢
      exact via i j hi hj n1 n2
    · have hmk : m < k := by omega
      have hmn : m < n := by omega
      -- each part: as before, or over k
      have part : ∀ i j, i < n → j < n → warS R k i j ≠ -1000000000000000 → (R i j ≠ -1000000000000000 ∧ warS R k i j = R i j) ∨ (R i k ≠ -1000000000000000 ∧ R k j ≠ -1000000000000000 ∧ warS R k i j = R i k + R k j) := fun i j hi hj hne => by
        rw [val i j hi hj] at hne ⊢
        have b0 := bR i j hi hj
        rcases tim i j hi hj with ⟨_, e⟩ | ⟨n3, n4, e⟩
        · rw [e] at hne ⊢
          left; omega
        · rw [e] at hne ⊢
          by_cases hle : R i j ≤ R i k + R k j
          · right; exact ⟨n3, n4, by omega⟩
          · left
            have := bR i k hi hk
            have := bR k j hk hj
            omega
      rcases part i m hi hmn n1 with ⟨p1, q1⟩ | ⟨p1, p2, q1⟩
      · rcases part m j hmn hj n2 with ⟨p3, q3⟩ | ⟨p3, p4, q3⟩
        · have := h.tri m i j hmk hi hj p1 p3
          have g := ge i j hi hj
          exact ⟨ne i j hi hj this.1, by omega⟩
        · have t1 := h.tri m i k hmk hi hk p1 p3
          have v := via i j hi hj t1.1 p4
          exact ⟨v.1, by omega⟩
      · rcases part m j hmn hj n2 with ⟨p3, q3⟩ | ⟨p3, p4, q3⟩
        · have t1 := h.tri m k j hmk hk hj p2 p3
          have v := via i j hi hj p1 t1.1
          exact ⟨v.1, by omega⟩
        · have t1 := h.tri m k k hmk hk hk p2 p3
          have v := via i j hi hj p1 p4
          exact ⟨v.1, by omega⟩
theorem addM_impl {a b : List (List Int)} {n : Nat} (ha : Shp a n) (al : a.length = n) (hb : Shp b n) (bl : b.length = n) : M.Conv (impl_addMatrices a b) (addM a b n n) := by
  have hr := ha.rows
  unfold impl_addMatrices addM
  have r0 := rowN_get (a := a) (i := 0) (by omega)
  have l0 := ha.row _ (List.mem_of_getElem? r0)
  refine M.Conv_bind (get_row r0) ?_
  rw [l0, al]
  refine M.Conv_bind (matrixBy_ok (fun i j => impl_addMatrices_1 i j a b) (fun i j => mx (entA a i j) (entA b i j)) (by omega) (by omega) fun i j hi hj => ?_) (M.Conv_ret _)
  obtain ⟨ra, a1, _, a2⟩ := ent_read ha (i := i) (j := j) (by omega) hj
  obtain ⟨rb, b1, _, b2⟩ := ent_read hb (i := i) (j := j) (by omega) hj
  unfold impl_addMatrices_1
  exact M.Conv_bind a1 (M.Conv_bind a2 (M.Conv_bind b1 (M.Conv_bind b2 (M.Conv_ret _))))
theorem starOf_ok {a : List (List Int)} {n : Nat} {B : Int} (ha : Shp a n) (al : a.length = n) (hB : Ent a n B) (h0 : 0 ≤ B) (hB2 : B ≤ 10000000000) (hp : NoPos a n) : ∃ S, M.Conv (impl_starOf a) (S, true) ∧ StarM a n S := by
  have hn := ha.rows
  have hu := unit_mat (n := n) (by omega)
  have key : M.TC (impl_starOf a) (fun r => r.2 = true ∧ StarM a n r.1) := by
    unfold impl_starOf
    rw [al]
    refine M.TC_bindC (impl_unitMatrix_ok (by omega)) (M.TC_bindC (addM_impl ha al hu.shp (matF_len _ _ _)) ?_)
    rw [show (addM a (unitM n) n n).length = n from matF_len _ _ _]
    have w0 : WarK a n 0 B (fun i j => mx (entA a i j) (entA (unitM n) i j)) := by
      have val : ∀ i j, i < n → j < n → mx (entA a i j) (entA (unitM n) i j) = max (entA a i j) (if i = j then 0 else -1000000000000000) := fun i j hi hj => by rw [mx_eq, unit_ent hi hj]
      have dia : ∀ i, i < n → mx (entA a i i) (entA (unitM n) i i) = 0 := fun i hi => by
        rw [val i i hi hi, if_pos rfl]
        by_cases e : entA a i i = -1000000000000000
        · omega
        · have := hp.closed (Wlk.step 0 i i 0 (.nil hi) hi e)
          omega
      refine ⟨fun i j hi hj => ?_, dia, fun i j hi hj hne => ?_, fun m i j hm => by omega⟩
      · by_cases e : i = j
        · subst e
          rw [dia i hi]
          exact .inr ⟨⟨0, .nil hi⟩, by omega, by omega⟩
        · rw [val i j hi hj, if_neg e]
          rcases hB i j hi hj with b | b
          · left; omega
          · right
            have hne : entA a i j ≠ -1000000000000000 := by omega
            rw [show max (entA a i j) (-1000000000000000) = entA a i j by omega]
            exact ⟨⟨1, by have := Wlk.step 0 j i 0 (.nil hj) hi hne; rwa [Int.zero_add] at this⟩, by omega⟩
      · rw [val i j hi hj]
        have := (hB i j hi hj).resolve_left hne
        split <;> omega
    refine M.TC_bind (M.TC_forE (fun k s => ∃ R, s = matF n n R ∧ WarK a n k B R) (fun _ => False) (by omega) ⟨_, rfl, w0⟩ (fun k s hk hI => ?_)) fun y hy => ?_
    · obtain ⟨R, rfl, hW⟩ := hI
      obtain ⟨st, ck, rk⟩ := war_step hp h0 hB2 (by omega) hk hW
      refine M.TC_bindC (idx_tab hk) (M.TC_bindC (idx_tab hk) (M.TC_ite (fun t => by have := of_decide_eq_true t; rw [hW.dia k hk] at this; omega) (fun _ => ?_)))
      refine M.TC_bindC (x := matF n n (warS R k)) ?_ (M.TC_ret (.inl ⟨_, rfl, _, rfl, st⟩))
      have hrow := (Conv_forV (n := n) (f := fun i2 => (fun (s3 : (List (List Int))) => M.bind (M.forI 0 (n : Int) (fun s => s) (fun i3 => (fun (s4 : (List (List Int))) => M.bind (M.idx s4 i2) (fun x8 => M.bind (M.idx s4 i2) (fun x9 => M.bind (M.idx x9 i3) (fun x10 => M.bind (M.idx s4 i2) (fun x11 => M.bind (M.idx x11 (k : Int)) (fun x12 => M.bind (M.idx s4 (k : Int)) (fun x13 => M.bind (M.idx x13 i3) (fun x14 => M.bind (impl_times x12 x14) (fun x15 => M.bind (M.idx x8 i3) (fun x16 => M.bind (M.upd x8 i3 (mx x10 x15)) (fun l1 => M.ret (.inl (s4.set i2.toNat l1)))))))))))))) s3) (fun x7 => M.ret (.inl x7)))) (fun i => matF n n (part (warS R k) R i 0)) (by omega) fun i hi => ?_).of (r' := matF n n (warS R k)) part_all
      · rw [part_zero] at hrow
        exact hrow
      · refine M.Conv_bind ((Conv_forV (n := n) (fun j => matF n n (part (warS R k) R i j)) (by omega) fun j hj => ?_).of (r' := matF n n (part (warS R k) R (i + 1) 0)) part_row) (M.Conv_ret _)
        have p1 : part (warS R k) R i j i j = R i j := by simp [part]
        have p2 : part (warS R k) R i j i k = R i k := by
          unfold part
          cases (decide (i < i) || (decide (i = i) && decide (k < j))) with
          | true => exact ck i hi
          | false => rfl
        have p3 : part (warS R k) R i j k j = R k j := by
          unfold part
          cases (decide (k < i) || (decide (k = i) && decide (j < j))) with
          | true => exact rk j hj
          | false => rfl
        have g1 := idx_tab (h := part (warS R k) R i j i) hj
        have g2 := idx_tab (h := part (warS R k) R i j i) hk
        have g3 := idx_tab (h := part (warS R k) R i j k) hj
        rw [p1] at g1
        rw [p2] at g2
        rw [p3] at g3
        refine M.Conv_bind (idx_tab hi) (M.Conv_bind (idx_tab hi) (M.Conv_bind g1 (M.Conv_bind (idx_tab hi) (M.Conv_bind g2 (M.Conv_bind (idx_tab hk) (M.Conv_bind g3 (M.Conv_bind (impl_times_ok _ _) (M.Conv_bind g1 (M.Conv_bind (M.Conv_upd (by rw [tab_len]; exact hj)) ((M.Conv_ret _).of (congrArg Sum.inl ?_)))))))))))
        rw [Int.toNat_natCast]
        exact part_step (g := warS R k)
    · rcases hy with ⟨s, rfl, R, rfl, hW⟩ | ⟨r, _, hf⟩
      · have tail : M.Conv (M.forI 0 (n : Int) (fun s => .inl s) (fun i4 => (fun (_ : Unit) => M.bind (M.idx (matF n n R) i4) (fun x18 => M.bind (M.idx x18 i4) (fun x19 => M.ite (decide (0 < x19)) (M.ret (.inr (.inr (([] : List (List Int)), false)))) (M.ret (.inl ())))))) () : M (Unit ⊕ (List (List Int) × Bool))) (.inl ()) := by
          have h9 := M.TC_forE (n := n) (f := (fun i4 => (fun (_ : Unit) => M.bind (M.idx (matF n n R) i4) (fun x18 => M.bind (M.idx x18 i4) (fun x19 => M.ite (decide (0 < x19)) (M.ret (.inr (.inr (([] : List (List Int)), false)))) (M.ret (.inl ()))))))) (s := ()) (fun _ _ => True) (fun _ => False) (by omega) trivial (fun i s hi _ => M.TC_bindC (idx_tab hi) (M.TC_bindC (idx_tab hi) (M.TC_ite (fun t => by have := of_decide_eq_true t; rw [hW.dia i hi] at this; omega) (fun _ => M.TC_ret (.inl ⟨(), rfl, trivial⟩)))))
          obtain ⟨y, c, hy⟩ := h9
          rcases hy with ⟨_, rfl, _⟩ | ⟨_, _, hf⟩
          · exact c
          · exact hf.elim
        refine M.TC_bindC tail (M.TC_ret ⟨rfl, shp_of (by omega) (by omega), matF_len _ _ _, fun i j hi hj => ?_, fun i j k w hw => ?_⟩)
        · simp only
          rw [entA_matF hi hj]
          exact (hW.snd i j hi hj).imp id And.left
        · have hij := hw.lt
          simp only
          rw [entA_matF hij.2 hij.1]
          induction hw with
          | nil hj => rw [hW.dia j hj]; omega
          | step k i i' w hw' hi' ha' ih =>
            have hi := hw'.lt.2
            have c := ih ⟨hij.1, hi⟩
            have d := hW.arc i' i hi' hi ha'
            have t := hW.tri i i' j hi hi' hij.1 d.1 c.1
            exact ⟨t.1, by omega⟩
      · exact hf.elim
  obtain ⟨⟨S, b⟩, c, hb, hS⟩ := key
  simp only at hb hS
  subst hb
  exact ⟨S, c, hS⟩

theorem gcd_loop2 : ∀ (m : Nat) (a b : Nat), b < m → ConvL gcdF ((a : Int), (b : Int)) ((Nat.gcd a b : Nat), 0)
  | 0, _, _, h => by omega
  | m + 1, a, b, h => by
    by_cases h0 : 0 < b
    · have hl : a % b < b := Nat.mod_lt _ h0
      have ih := gcd_loop2 m b (a % b) (by omega)
      have e : Nat.gcd b (a % b) = Nat.gcd a b := by
        rw [Nat.gcd_comm b, ← Nat.gcd_rec, Nat.gcd_comm]
      rw [e] at ih
      refine ConvL.step ?_ ih
      have e2 : ((a : Int)).tmod (b : Int) = ((a % b : Nat) : Int) := by rw [Int.tmod_eq_emod_of_nonneg (by omega)]; omega
      exact M.Conv_ite (fun _ => M.Conv_bind (M.Conv_guard (by simp; omega)) ((M.Conv_ret _).of (by rw [e2]))) (fun q => by have := of_decide_eq_false q; simp only at this; omega)
    · obtain rfl : b = 0 := by omega
      rw [Nat.gcd_zero_right]
      exact ConvL.stop (M.Conv_ite (fun q => by have := of_decide_eq_true q; simp only at this; omega) (fun _ => M.Conv_ret _))
theorem divisor_gcd {a b : Int} (ha : -9000000000000000000 ≤ a ∧ a ≤ 9000000000000000000) (hb : -9000000000000000000 ≤ b ∧ b ≤ 9000000000000000000) : M.Conv (spec_l01Divisor a b) ((Nat.gcd a.natAbs b.natAbs : Nat) : Int) := by
  have e1 : mx a (w64 (0 - a)) = (a.natAbs : Int) := by rw [w64_eq _ (by omega), mx_eq]; omega
  have e2 : mx b (w64 (0 - b)) = (b.natAbs : Int) := by rw [w64_eq _ (by omega), mx_eq]; omega
  unfold spec_l01Divisor
  rw [e1, e2]
  exact M.Conv_bind (gcd_loop2 _ _ _ (Nat.lt_succ_self _)).conv (M.Conv_ret _)
theorem divisorI_gcd {a b : Nat} : M.Conv (impl_divisorOf (a : Int) (b : Int)) ((Nat.gcd a b : Nat) : Int) := by
  unfold impl_divisorOf
  exact M.Conv_bind (gcd_loop2 _ _ _ (Nat.lt_succ_self _)).conv (M.Conv_ret _)
theorem absI_ok {a : Int} (ha : -9000000000000000000 ≤ a ∧ a ≤ 9000000000000000000) : M.Conv (impl_absOf a) (a.natAbs : Int) := M.Conv_ite (fun q => by have := of_decide_eq_true q; exact (M.Conv_ret _).of (by rw [w64_eq _ (by omega)]; omega)) (fun q => by have := of_decide_eq_false q; exact (M.Conv_ret _).of (by omega))
/-- r is x / d in lowest terms -/
structure RatP (x d : Int) (r : TRatio) : Prop where
  pos : 0 < r.Den
  mul : ∃ g : Int, 0 < g ∧ x = g * r.Num ∧ d = g * r.Den
  cop : Nat.gcd r.Num.natAbs r.Den.natAbs = 1
theorem ratio_ok {x d : Int} (hx : -9000000000000000000 ≤ x ∧ x ≤ 9000000000000000000) (hd : 0 < d ∧ d ≤ 9000000000000000000) : ∃ r, M.Conv (spec_l01Ratio x d) r ∧ M.Conv (impl_ratioOf x d) r ∧ RatP x d r := by
  have hg : 0 < Nat.gcd x.natAbs d.natAbs := Nat.gcd_pos_of_pos_right _ (by omega)
  have k1 := divisor_gcd hx (b := d) ⟨by omega, by omega⟩
  have k2 := divisorI_gcd (a := x.natAbs) (b := d.natAbs)
  have ed : ((d.natAbs : Nat) : Int) = d := Int.natAbs_of_nonneg (by omega)
  rw [ed] at k2
  have dx : Nat.gcd x.natAbs d.natAbs ∣ x.natAbs := Nat.gcd_dvd_left _ _
  have dd : Nat.gcd x.natAbs d.natAbs ∣ d.natAbs := Nat.gcd_dvd_right _ _
  have cop : Nat.gcd (x.natAbs / Nat.gcd x.natAbs d.natAbs) (d.natAbs / Nat.gcd x.natAbs d.natAbs) = 1 := by
    rw [Nat.gcd_div dx dd, Nat.div_self hg]
  generalize Nat.gcd x.natAbs d.natAbs = G at k1 k2 hg dx dd cop
  have hG : ((G : Int) != 0) = true := by simp; omega
  obtain ⟨p, hp⟩ := dx
  obtain ⟨q, hq⟩ := dd
  have hx2 : ∃ s : Int, (s = 1 ∨ s = -1) ∧ x = (G : Int) * (s * p) := by
    by_cases h : 0 ≤ x
    · exact ⟨1, .inl rfl, by rw [Int.one_mul, ← Int.natCast_mul, ← hp]; omega⟩
    · exact ⟨-1, .inr rfl, by rw [Int.neg_one_mul, Int.mul_neg, ← Int.natCast_mul, ← hp]; omega⟩
  obtain ⟨s, hs, hx2⟩ := hx2
  have hd2 : d = (G : Int) * q := by rw [← Int.natCast_mul, ← hq]; omega
  have e1 : x.tdiv (G : Int) = s * p := by rw [hx2]; exact Int.mul_tdiv_cancel_left _ (by omega)
  have e2 : d.tdiv (G : Int) = q := by rw [hd2]; exact Int.mul_tdiv_cancel_left _ (by omega)
  have hq1 : 0 < q := by
    cases q with
    | zero => rw [Nat.mul_zero] at hq; omega
    | succ q => omega
  have hpb : p ≤ x.natAbs := by rw [hp]; exact Nat.le_mul_of_pos_left _ hg
  have hqb : q ≤ d.natAbs := by rw [hq]; exact Nat.le_mul_of_pos_left _ hg
  have w1 : w64 (s * p) = s * p := w64_eq _ (by rcases hs with rfl | rfl <;> omega)
  have w2 : w64 (q : Int) = q := w64_eq _ (by omega)
  have h0 : M.Conv (M.ite (decide (d < 0)) (M.ret ((w64 (0 - x)), (w64 (0 - d)))) (M.ret (x, d))) (x, d) := M.Conv_ite (fun q => by have := of_decide_eq_true q; omega) (fun _ => M.Conv_ret _)
  refine ⟨⟨s * p, q⟩, ?_, ?_, ⟨by simp only; omega, ⟨G, by omega, hx2, hd2⟩, ?_⟩⟩
  · unfold spec_l01Ratio
    refine M.Conv_bind h0 (M.Conv_bind k1 (M.Conv_bind (M.Conv_guard hG) (M.Conv_bind (M.Conv_guard hG) ((M.Conv_ret _).of ?_))))
    simp only [e1, e2, w1, w2]
  · unfold impl_ratioOf
    refine M.Conv_bind h0 (M.Conv_bind (absI_ok hx) (M.Conv_bind k2 (M.Conv_bind (M.Conv_guard hG) (M.Conv_bind (M.Conv_guard hG) ((M.Conv_ret _).of ?_)))))
    simp only [e1, e2, w1, w2]
  · have a1 : (s * (p : Int)).natAbs = p := by rcases hs with rfl | rfl <;> omega
    have a2 : ((q : Nat) : Int).natAbs = q := by omega
    have e3 : x.natAbs / G = p := by rw [hp]; exact Nat.mul_div_cancel_left _ hg
    have e4 : d.natAbs / G = q := by rw [hq]; exact Nat.mul_div_cancel_left _ hg
    rw [e3, e4] at cop
    simp only [a1, a2]
    exact cop
theorem cop_eq {a b c d : Int} (hb : 0 < b) (hd : 0 < d) (h1 : Nat.gcd a.natAbs b.natAbs = 1) (h2 : Nat.gcd c.natAbs d.natAbs = 1) (h : a * d = c * b) : a = c ∧ b = d := by
  have hn : a.natAbs * d.natAbs = c.natAbs * b.natAbs := by rw [← Int.natAbs_mul, ← Int.natAbs_mul, h]
  have d1 : b.natAbs ∣ d.natAbs := by
    have : b.natAbs ∣ a.natAbs * d.natAbs := by rw [hn]; exact Nat.dvd_mul_left _ _
    exact Nat.Coprime.dvd_of_dvd_mul_left (Nat.Coprime.symm h1) this
  have d2 : d.natAbs ∣ b.natAbs := by
    have : d.natAbs ∣ c.natAbs * b.natAbs := by rw [← hn]; exact Nat.dvd_mul_left _ _
    exact Nat.Coprime.dvd_of_dvd_mul_left (Nat.Coprime.symm h2) this
  have e := Nat.dvd_antisymm d1 d2
  have e2 : b = d := by omega
  subst e2
  exact ⟨Int.eq_of_mul_eq_mul_right (by omega) h, rfl⟩
theorem RatP.eq_iff {x d x' d' : Int} {r r' : TRatio} (hd : 0 < d) (hd' : 0 < d') (h : RatP x d r) (h' : RatP x' d' r') : r = r' ↔ x * d' = x' * d := by
  obtain ⟨g, g0, rfl, rfl⟩ := h.mul
  obtain ⟨g', g0', rfl, rfl⟩ := h'.mul
  constructor
  · rintro rfl; grind
  · intro e
    have : (g * g') * (r.Num * r'.Den) = (g * g') * (r'.Num * r.Den) := by grind
    have := Int.eq_of_mul_eq_mul_left (by have := Int.mul_pos g0 g0'; omega) this
    obtain ⟨e1, e2⟩ := cop_eq h.pos h'.pos h.cop h'.cop this
    cases r; cases r'
    simp only at e1 e2
    subst e1; subst e2; rfl

def pf (l : List Nat) (k : Nat) : Nat := (l[k]?).getD 0
theorem pf_mem {l : List Nat} {k : Nat} (h : k < l.length) : pf l k ∈ l := by
  unfold pf; rw [List.getElem?_eq_getElem h]; exact List.getElem_mem h
theorem toI_read {l : List Nat} {k : Nat} (h : k < l.length) : M.Conv (M.idx (toI l) (k : Int)) (pf l k : Int) := M.Conv_idx (by simp [pf, h])
theorem drawSquare_ok {code : List Int} (hc : ByC code) {s : TL01source} (hs : Src code s) : M.TC (spec_l02DrawSquare s) (fun r => MatS r.1 ∧ Src code r.2) := by
  unfold spec_l02DrawSquare
  rw [hs.code_]
  refine M.TC_bind (next_ok hc hs 5 (by omega)) fun x hx => ?_
  obtain ⟨k, hk⟩ : ∃ k : Nat, w64 (1 + x.1) = k ∧ 1 ≤ k ∧ k ≤ 10 := by
    have := hx.2
    refine ⟨(w64 (1 + x.1)).toNat, ?_, ?_, ?_⟩ <;> rw [w64_eq _ (by omega)] <;> omega
  rw [hk.1]
  exact M.TC_bind (size_ok hc (hx.1.mk' rfl) k k (by omega) (by omega)) fun y hy => M.TC_ret ⟨hy.1, hy.2.mk' rfl⟩
theorem exists_max {α : Type} {P : α → Prop} (f : α → Int) (B : Int) (hb : ∀ x, P x → f x ≤ B) (h : ∃ x, P x) : ∃ x, P x ∧ ∀ y, P y → f y ≤ f x := by
  suffices H : ∀ (m : Nat) (x : α), P x → (B - f x).toNat ≤ m → ∃ x, P x ∧ ∀ y, P y → f y ≤ f x by
    obtain ⟨x, hx⟩ := h
    exact H _ x hx (Nat.le_refl _)
  intro m
  induction m with
  | zero =>
    intro x hx hm
    have := hb x hx
    exact ⟨x, hx, fun y hy => by have := hb y hy; omega⟩
  | succ m ih =>
    intro x hx hm
    by_cases hm2 : ∃ y, P y ∧ f x < f y
    · obtain ⟨y, hy, hlt⟩ := hm2
      exact ih y hy (by have := hb y hy; omega)
    · refine ⟨x, hx, fun y hy => Int.not_lt.1 fun h => hm2 ⟨y, hy, h⟩⟩
def shF (a : List (List Int)) (L W : Int) (i j : Nat) : Int := bif entA a i j == (-1000000000000000) then -1000000000000000 else L * entA a i j - W
structure Sh (a : List (List Int)) (n : Nat) (L W : Int) : Prop where
  ent : Ent a n 1000000
  hL : 1 ≤ L ∧ L ≤ 10
  hW : -10000000 ≤ W ∧ W ≤ 10000000
theorem Sh.val {a : List (List Int)} {n : Nat} {L W : Int} (h : Sh a n L W) {i j : Nat} (hi : i < n) (hj : j < n) : (entA a i j = -1000000000000000 ∧ entA (matF n n (shF a L W)) i j = -1000000000000000) ∨ (entA a i j ≠ -1000000000000000 ∧ entA (matF n n (shF a L W)) i j = L * entA a i j - W ∧ -20000000 ≤ L * entA a i j - W ∧ L * entA a i j - W ≤ 20000000) := by
  rw [entA_matF hi hj]
  unfold shF
  rcases h.ent i j hi hj with e | e
  · left; rw [e]; exact ⟨rfl, rfl⟩
  · right
    have hL := h.hL
    have hW := h.hW
    have c1 := Int.mul_le_mul_of_nonneg_left e.2 (show 0 ≤ L by omega)
    have c2 := Int.mul_le_mul_of_nonneg_left e.1 (show 0 ≤ L by omega)
    have ne : entA a i j ≠ -1000000000000000 := by omega
    rw [show (entA a i j == (-1000000000000000)) = false by simpa using ne]
    exact ⟨ne, rfl, by omega, by omega⟩
theorem Sh.bd {a : List (List Int)} {n : Nat} {L W : Int} (h : Sh a n L W) : Ent (matF n n (shF a L W)) n 20000000 := by
  intro i j hi hj
  rcases h.val hi hj with e | e
  · exact .inl e.2
  · right; rw [e.2.1]; exact e.2.2
theorem Wlk.sh {a : List (List Int)} {n : Nat} {L W : Int} (hs : Sh a n L W) {j k i : Nat} {w : Int} (h : Wlk a n j k i w) : Wlk (matF n n (shF a L W)) n j k i (L * w - W * (k : Int)) := by
  induction h with
  | nil hj => simpa using Wlk.nil hj
  | step k i i' w hw hi ha ih =>
    rcases hs.val hi hw.lt.2 with e | e
    · exact absurd e.1 ha
    · have := Wlk.step k i i' _ ih hi (by rw [e.2.1]; omega)
      rw [e.2.1] at this
      rw [show L * (w + entA a i' i) - W * ((k + 1 : Nat) : Int) = L * w - W * (k : Int) + (L * entA a i' i - W) by rw [Int.mul_add, Int.natCast_add, Int.mul_add]; simp only [Int.natCast_one, Int.mul_one]; omega]
      exact this
theorem Wlk.unsh {a : List (List Int)} {n : Nat} {L W : Int} (hs : Sh a n L W) {j k i : Nat} {w : Int} (h : Wlk (matF n n (shF a L W)) n j k i w) : ∃ w', w = L * w' - W * (k : Int) ∧ Wlk a n j k i w' := by
  induction h with
  | nil hj => exact ⟨0, by simp, .nil hj⟩
  | step k i i' w hw hi ha ih =>
    obtain ⟨w', rfl, h'⟩ := ih
    rcases hs.val hi hw.lt.2 with e | e
    · exact absurd e.2 ha
    · refine ⟨w' + entA a i' i, ?_, .step k i i' w' h' hi e.1⟩
      rw [e.2.1, Int.mul_add, Int.natCast_add, Int.mul_add]; simp only [Int.natCast_one, Int.mul_one]; omega
theorem sh_nopos {a : List (List Int)} {n : Nat} {L W : Int} (hs : Sh a n L W) (h : ∀ l w, Cl a n l w → w * L ≤ W * (l.length : Int)) : NoPos (matF n n (shF a L W)) n := by
  intro l w hc
  obtain ⟨j, r, rfl, hw⟩ := hc.wlk
  obtain ⟨w', rfl, hw'⟩ := hw.unsh hs
  obtain ⟨r', h1, h2⟩ := Wlk.cl (k := r.length) hw'
  have := h _ _ h1
  rw [Int.mul_comm] at this
  simp only [List.length_cons, h2] at this ⊢
  omega
theorem div2520 {L : Nat} (h1 : 1 ≤ L) (h2 : L ≤ 10) : ((2520 / L : Nat) : Int) * (L : Int) = 2520 ∧ 1 ≤ 2520 / L ∧ 2520 / L ≤ 2520 := by
  have : ∀ q : Fin 11, 1 ≤ q.val → ((2520 / q.val : Nat) : Int) * (q.val : Int) = 2520 ∧ 1 ≤ 2520 / q.val ∧ 2520 / q.val ≤ 2520 := by decide
  exact this ⟨L, by omega⟩ h1
theorem key_le {w w' L L' q q' : Int} (h : w' * q' ≤ w * q) (h1 : q * L = 2520) (h2 : q' * L' = 2520) (hL : 0 < L) (hL' : 0 < L') : w' * L ≤ w * L' := by
  have a1 : w' * q' * (L * L') ≤ w * q * (L * L') := Int.mul_le_mul_of_nonneg_right h (Int.le_of_lt (Int.mul_pos hL hL'))
  have a2 : w' * q' * (L * L') = 2520 * (w' * L) := by rw [show w' * q' * (L * L') = (q' * L') * (w' * L) by grind, h2]
  have a3 : w * q * (L * L') = 2520 * (w * L') := by rw [show w * q * (L * L') = (q * L) * (w * L') by grind, h1]
  omega
theorem Cl.bd {a : List (List Int)} {n : Nat} {B : Int} (hB : Ent a n B) {l : List Nat} {w : Int} (h : Cl a n l w) : -(B * (l.length : Int)) ≤ w ∧ w ≤ B * (l.length : Int) := by
  obtain ⟨j, r, rfl, hw⟩ := h.wlk
  exact hw.bd hB
/-- a cycle of the greatest mean -/
structure MaxC (a : List (List Int)) (n : Nat) (l : List Nat) (W : Int) : Prop where
  wc : WC a n l W
  max : ∀ l' w', Cl a n l' w' → w' * (l.length : Int) ≤ W * (l'.length : Int)
theorem WC.len {a : List (List Int)} {n : Nat} {l : List Nat} {w : Int} (h : WC a n l w) : 1 ≤ l.length ∧ l.length ≤ n := by
  have := nodup_lt n l h.nd h.cl.lt
  obtain ⟨j, r, e, _⟩ := h.cl
  rw [e] at this ⊢
  exact ⟨by simp, this⟩
theorem max_cycle {a : List (List Int)} {n : Nat} (hn : n ≤ 10) (hA : Ent a n 1000000) (hex : ∃ l w, Cl a n l w) : ∃ l W, MaxC a n l W := by
  obtain ⟨l0, w0, h0⟩ := hex
  obtain ⟨l1, w1, h1, _⟩ := h0.written (P := fun _ _ => True) (fun _ _ _ _ _ => .inl trivial) _ rfl trivial
  obtain ⟨⟨l, W⟩, hl, hmax⟩ := exists_max (P := fun x : List Nat × Int => WC a n x.1 x.2) (fun x => x.2 * ((2520 / x.1.length : Nat) : Int)) (10000000 * 2520) (fun x hx => by
    have b := (hx.cl.bd hA).2
    have c := hx.len
    have d := div2520 c.1 (by omega)
    have e1 : x.2 ≤ 10000000 := by omega
    have e2 := Int.mul_le_mul_of_nonneg_right e1 (show (0 : Int) ≤ ((2520 / x.1.length : Nat) : Int) by omega)
    omega) ⟨(l1, w1), h1⟩
  have hlen := hl.len
  refine ⟨l, W, hl, fun l' w' hc => ?_⟩
  apply Int.not_lt.1
  intro hlt
  obtain ⟨l2, w2, h2, hp, _⟩ := hc.written (P := fun k w => W * (k : Int) < w * (l.length : Int)) (fun k1 k2 w1 w2 h => by
    rw [Int.natCast_add, Int.mul_add, Int.add_mul] at h
    omega) _ rfl hlt
  have hlen2 := h2.len
  have d1 := (div2520 hlen.1 (by omega)).1
  have d2 := (div2520 hlen2.1 (by omega)).1
  have := key_le (hmax (l2, w2) h2) d1 d2 (by omega) (by omega)
  simp only at this
  omega
theorem MaxC.sh {a : List (List Int)} {n : Nat} {l : List Nat} {W : Int} (hn : n ≤ 10) (hA : Ent a n 1000000) (h : MaxC a n l W) : Sh a n (l.length : Int) W ∧ NoPos (matF n n (shF a (l.length : Int) W)) n := by
  have hlen := h.wc.len
  have b := h.wc.cl.bd hA
  have hs : Sh a n (l.length : Int) W := ⟨hA, by omega, by omega⟩
  exact ⟨hs, sh_nopos hs fun l' w' hc => h.max l' w' hc⟩
/-- potentials -/
theorem pot_gen {b : List (List Int)} {n : Nat} {B : Int} (hB : Ent b n B) (h0 : 0 ≤ B) (hn : n ≤ 10) (hp : NoPos b n) : ∃ U : Nat → Int, ∀ i, i < n → (∃ j k, Wlk b n j k i (U i)) ∧ ∀ j k w, Wlk b n j k i w → w ≤ U i := by
  have : ∀ i, ∃ u : Int, i < n → (∃ j k, Wlk b n j k i u) ∧ ∀ j k w, Wlk b n j k i w → w ≤ u := by
    intro i
    by_cases hi : i < n
    · obtain ⟨⟨j, k, u⟩, h1, h2⟩ := exists_max (P := fun x : Nat × Nat × Int => Wlk b n x.1 x.2.1 i x.2.2) (fun x => x.2.2) (B * 10) (fun x hx => by
        obtain ⟨k', w', g1, g2, _, g4⟩ := hx.short hp
        have c := (g1.bd hB).2
        have := Int.mul_le_mul_of_nonneg_left (show (k' : Int) ≤ 10 by omega) h0
        omega) ⟨(i, 0, 0), .nil hi⟩
      exact ⟨u, fun _ => ⟨⟨j, k, h1⟩, fun j k w hw => h2 (j, k, w) hw⟩⟩
    · exact ⟨0, fun h => absurd h hi⟩
  obtain ⟨U, hU⟩ := Classical.skolem.1 this
  exact ⟨U, hU⟩
theorem Wlk.split {a : List (List Int)} {n j : Nat} (k : Nat) : ∀ (m : Nat) {w : Int} {i : Nat}, Wlk a n j (k + m) i w → ∃ x w1 w2, Wlk a n j k x w1 ∧ Wlk a n x m i w2 ∧ w = w1 + w2
  | 0, w, i, h => ⟨i, w, 0, h, .nil h.lt.2, by omega⟩
  | m + 1, w, i, h => by
    cases h with
    | step _ i1 _ w1 hw hi ha =>
      obtain ⟨x, u, v, h1, h2, rfl⟩ := Wlk.split k m hw
      exact ⟨x, u, _, h1, .step m i1 _ v h2 hi ha, by omega⟩
structure FkP (a : List (List Int)) (n k : Nat) (F : List Int) : Prop where
  len : F.length = n
  snd : ∀ i, i < n → nd F i = -1000000000000000 ∨ ∃ j, Wlk a n j k i (nd F i)
  cpl : ∀ i j w, Wlk a n j k i w → nd F i ≠ -1000000000000000 ∧ w ≤ nd F i
theorem karp_le {a : List (List Int)} {n : Nat} {L W : Int} (hs : Sh a n L W) (hp : NoPos (matF n n (shF a L W)) n) {F : Nat → List Int} (hF : ∀ k, k ≤ n → FkP a n k (F k)) {i : Nat} (hi : i < n) (hf : nd (F n) i ≠ -1000000000000000) :
    ∃ k, k < n ∧ nd (F k) i ≠ -1000000000000000 ∧ L * (nd (F n) i - nd (F k) i) ≤ W * ((n : Int) - k) := by
  obtain ⟨j, hw⟩ := ((hF n (Nat.le_refl _)).snd i hi).resolve_left hf
  obtain ⟨k, w', g1, g2, _, g4⟩ := (hw.sh hs).short hp
  obtain ⟨w2, rfl, g5⟩ := g1.unsh hs
  obtain ⟨c1, c2⟩ := (hF k (by omega)).cpl i j w2 g5
  refine ⟨k, g2, c1, ?_⟩
  have := Int.mul_le_mul_of_nonneg_left c2 (show 0 ≤ L by have := hs.hL; omega)
  rw [Int.mul_sub, Int.mul_sub]
  omega
theorem karp_ge {a : List (List Int)} {n : Nat} {L W : Int} (hn : n ≤ 10) (hs : Sh a n L W) (hp : NoPos (matF n n (shF a L W)) n) {l : List Nat} (hc : Cl a n l W) (hl : (l.length : Int) = L) {F : Nat → List Int} (hF : ∀ k, k ≤ n → FkP a n k (F k)) :
    ∃ i, i < n ∧ nd (F n) i ≠ -1000000000000000 ∧ ∀ k, k < n → nd (F k) i ≠ -1000000000000000 → W * ((n : Int) - k) ≤ L * (nd (F n) i - nd (F k) i) := by
  obtain ⟨U, hU⟩ := pot_gen hs.bd (by omega) hn hp
  obtain ⟨v, r, e, hw⟩ := hc.wlk
  have hv := hw.lt.1
  have hw := hw.sh hs
  rw [hl, show L * W - W * L = 0 by rw [Int.mul_comm W L]; omega] at hw
  have hl1 : 1 ≤ l.length := by rw [e]; simp
  -- round and round
  have rounds : ∀ t : Nat, ∃ m, t ≤ m ∧ Wlk (matF n n (shF a L W)) n v m v 0 := by
    intro t
    induction t with
    | zero => exact ⟨0, Nat.le_refl _, .nil hv⟩
    | succ t ih =>
      obtain ⟨m, h1, h2⟩ := ih
      exact ⟨m + l.length, by omega, by have := h2.trans hw; simpa using this⟩
  obtain ⟨⟨j, k0, hj⟩, hmax⟩ := hU v hv
  obtain ⟨m, hm, hround⟩ := rounds n
  have hlong := hj.trans hround
  rw [Int.add_zero, show k0 + m = n + (k0 + m - n) by omega] at hlong
  obtain ⟨x, w1, w2, h1, h2, h3⟩ := Wlk.split n _ hlong
  have hx := h1.lt.2
  obtain ⟨⟨j', k', hj'⟩, hmax'⟩ := hU x hx
  have c1 := hmax j' _ _ (hj'.trans h2)
  obtain ⟨w1', e1, g1⟩ := h1.unsh hs
  obtain ⟨c2, c3⟩ := (hF n (Nat.le_refl _)).cpl x j w1' g1
  have c4 := Int.mul_le_mul_of_nonneg_left c3 (show 0 ≤ L by have := hs.hL; omega)
  refine ⟨x, hx, c2, fun k hk hne => ?_⟩
  obtain ⟨j2, hw2⟩ := ((hF k (by omega)).snd x hx).resolve_left hne
  have c5 := hmax' j2 k _ (hw2.sh hs)
  rw [Int.mul_sub, Int.mul_sub]
  omega

theorem Wlk.cyc {a : List (List Int)} {n j k i : Nat} {w : Int} (h : Wlk a n j k i w) (hk : n ≤ k) : ∃ l w, Cl a n l w := by
  obtain ⟨x, h1, h2, h3⟩ := h.chn
  have hnn : ¬ (x ++ [i]).Nodup := fun hd => by
    have := nodup_lt n _ hd h1.lt
    simp at this; omega
  obtain ⟨p, v, y, z, e⟩ := dup_of hnn
  have e' : x ++ [i] = p ++ v :: (y ++ v :: z) := by rw [e]; simp
  rw [e'] at h1
  obtain ⟨w1, w2, rfl, c1, c2⟩ := h1.split
  obtain ⟨w3, w4, rfl, c3, c4⟩ := Chn.split (x := v :: y) c2
  exact ⟨v :: y, w3, v, y, rfl, c3⟩
theorem Cl.long {a : List (List Int)} {n : Nat} {l : List Nat} {w : Int} (h : Cl a n l w) : ∀ t : Nat, ∃ v m u, t ≤ m ∧ Wlk a n v m v u := by
  obtain ⟨v, r, e, hw⟩ := h.wlk
  intro t
  have hl1 : 1 ≤ l.length := by rw [e]; simp
  have : ∀ t : Nat, ∃ m u, t ≤ m ∧ Wlk a n v m v u := by
    intro t
    induction t with
    | zero => exact ⟨0, 0, Nat.le_refl _, .nil hw.lt.1⟩
    | succ t ih =>
      obtain ⟨m, u, h1, h2⟩ := ih
      exact ⟨m + l.length, u + w, by omega, h2.trans hw⟩
  obtain ⟨m, u, h1, h2⟩ := this t
  exact ⟨v, m, u, h1, h2⟩
def Fs (a : List (List Int)) : Nat → List Int
  | 0 => List.replicate a.length 0
  | k + 1 => a.map (dotL (Fs a k))
theorem fs_len (a : List (List Int)) : ∀ k, (Fs a k).length = a.length
  | 0 => by simp [Fs]
  | k + 1 => by simp [Fs]
theorem mat_ent {a : List (List Int)} (hm : Mat a a.length) : Ent a a.length 1000000 := fun i j hi hj => val_cases (ent_val hm hi hj).2.2
theorem FkP.bd {a : List (List Int)} {n k : Nat} (hB : Ent a n 1000000) {F : List Int} (h : FkP a n k F) (hk : k ≤ 10) {i : Nat} (hi : i < n) : nd F i = -1000000000000000 ∨ (-10000000 ≤ nd F i ∧ nd F i ≤ 10000000) := by
  rcases h.snd i hi with e | ⟨j, hw⟩
  · exact .inl e
  · have := hw.bd hB
    exact .inr (by omega)
theorem fs_ok {a : List (List Int)} (hm : Mat a a.length) : ∀ k, k ≤ 10 → FkP a a.length k (Fs a k)
  | 0, _ => by
    have hz : ∀ i, i < a.length → nd (Fs a 0) i = 0 := fun i hi => by simp [Fs, nd, hi]
    refine ⟨fs_len a 0, fun i hi => .inr ⟨i, by rw [hz i hi]; exact .nil hi⟩, fun i j w hw => ?_⟩
    cases hw with
    | nil hj => rw [hz _ hj]; exact ⟨by omega, Int.le_refl _⟩
  | k + 1, hk => by
    have ih := fs_ok hm k (by omega)
    have hB := mat_ent hm
    have hrows := hm.rows
    have key : ∀ i, i < a.length → DotP (entA a i) (nd (Fs a k)) a.length (nd (Fs a (k + 1)) i) := by
      intro i hi
      have hrl := hm.shp.row _ (List.mem_of_getElem? (rowN_get hi))
      have := dotL_ok2 (x := Fs a k) (row := rowN a i) (by rw [fs_len, hrl]) (B := 10000000) (by omega) (fun j hj => by
        rw [nd_row hi]
        have := hB i j hi (by omega)
        unfold Bd; omega) (fun j hj => by
        have := ih.bd hB (by omega) (i := j) (by omega)
        unfold Bd; omega)
      rw [hrl] at this
      have e : nd (Fs a (k + 1)) i = dotL (Fs a k) (rowN a i) := by
        simp only [Fs, nd, List.getElem?_map, rowN_get hi]; rfl
      rw [e]
      exact this.congr (fun j _ => nd_row hi) (fun j _ => rfl)
    refine ⟨fs_len a _, fun i hi => ?_, fun i j w hw => ?_⟩
    · rcases (key i hi).on with e | ⟨j, hj, e1, e2, e3⟩
      · exact .inl e
      · obtain ⟨j0, hw⟩ := (ih.snd j hj).resolve_left e2
        refine .inr ⟨j0, ?_⟩
        rw [e3, Int.add_comm]
        exact .step k j i _ hw hi e1
    · have hi := hw.lt.2
      cases hw with
      | step _ i1 _ w1 hw1 _ ha =>
        obtain ⟨c1, c2⟩ := ih.cpl i1 j w1 hw1
        have c3 := (key i hi).up i1 hw1.lt.2 ha c1
        have c4 := (hB i i1 hi hw1.lt.2).resolve_left ha
        have c5 := (ih.bd hB (by omega) hw1.lt.2).resolve_left c1
        omega
theorem cross_le {X D X' D' q e : Int} (h1 : X' * D ≤ X * D') (h2 : X * e ≤ q * D) (hD : 0 < D) (hD' : 0 < D') (he : 0 < e) : X' * e ≤ q * D' := by
  have a1 : X' * D * e ≤ X * D' * e := Int.mul_le_mul_of_nonneg_right h1 (Int.le_of_lt he)
  have a2 : X * e * D' ≤ q * D * D' := Int.mul_le_mul_of_nonneg_right h2 (Int.le_of_lt hD')
  have e1 : X' * D * e = (X' * e) * D := by grind
  have e2 : X * D' * e = X * e * D' := by grind
  have e3 : q * D * D' = (q * D') * D := by grind
  rw [e1, e2] at a1
  rw [e3] at a2
  exact Int.le_of_mul_le_mul_right (Int.le_trans a1 a2) hD
theorem RatP.bds {x d : Int} {r : TRatio} (h : RatP x d r) (hx : -20000000 ≤ x ∧ x ≤ 20000000) : (-20000000 ≤ r.Num ∧ r.Num ≤ 20000000) ∧ r.Den ≤ d := by
  obtain ⟨g, g0, e1, e2⟩ := h.mul
  obtain ⟨k, hk, rfl⟩ : ∃ k, 0 ≤ k ∧ g = k + 1 := ⟨g - 1, by omega, by omega⟩
  rw [Int.add_mul, Int.one_mul] at e1 e2
  have p := Int.mul_nonneg hk (Int.le_of_lt h.pos)
  by_cases hn : 0 ≤ r.Num
  · have := Int.mul_nonneg hk hn
    omega
  · have := Int.mul_nonneg hk (show 0 ≤ -r.Num by omega)
    rw [Int.mul_neg] at this
    omega
theorem RatP.lt_iff {x d x' d' : Int} {r r' : TRatio} (h : RatP x d r) (h' : RatP x' d' r') : r.Num * r'.Den < r'.Num * r.Den ↔ x * d' < x' * d := by
  obtain ⟨g, g0, e1, e2⟩ := h.mul
  obtain ⟨g', g0', e1', e2'⟩ := h'.mul
  have k1 : x * d' = (g * g') * (r.Num * r'.Den) := by rw [e1, e2']; grind
  have k2 : x' * d = (g * g') * (r'.Num * r.Den) := by rw [e1', e2]; grind
  have hp := Int.mul_pos g0 g0'
  rw [k1, k2]
  exact ⟨fun h => Int.mul_lt_mul_of_pos_left h hp, fun h => Int.lt_of_mul_lt_mul_left h (Int.le_of_lt hp)⟩
theorem prod_bd {x d : Int} (h1 : -20000000 ≤ x ∧ x ≤ 20000000) (h2 : 0 < d ∧ d ≤ 10) : -200000000 ≤ x * d ∧ x * d ≤ 200000000 := by
  have a1 := Int.mul_le_mul_of_nonneg_right h1.1 (show 0 ≤ d by omega)
  have a2 := Int.mul_le_mul_of_nonneg_right h1.2 (show 0 ≤ d by omega)
  omega
theorem cmpR_ok {x d x' d' : Int} {r r' : TRatio} (h : RatP x d r) (h' : RatP x' d' r') (hx : -20000000 ≤ x ∧ x ≤ 20000000) (hx' : -20000000 ≤ x' ∧ x' ≤ 20000000) (hd : d ≤ 10) (hd' : d' ≤ 10) :
    ∃ c, M.Conv (impl_compareRatios r r') c ∧ (c < 0 ↔ x * d' < x' * d) ∧ (0 < c ↔ x' * d < x * d') := by
  have b1 := h.bds hx
  have b2 := h'.bds hx'
  have p1 := h.pos
  have p2 := h'.pos
  have m1 := prod_bd b1.1 (d := r'.Den) (by omega)
  have m2 := prod_bd b2.1 (d := r.Den) (by omega)
  have l1 := h.lt_iff h'
  have l2 := h'.lt_iff h
  refine ⟨_, M.Conv_bind (cmp_ok _ _) (M.Conv_ret _), ?_, ?_⟩
  · rw [w64_eq _ (by omega), w64_eq _ (by omega), ← l1]
    by_cases h1 : r.Num * r'.Den < r'.Num * r.Den
    · simp [h1]
    · by_cases h2 : r'.Num * r.Den < r.Num * r'.Den
      · simp [h1, h2]
      · simp [h1, h2]
  · rw [w64_eq _ (by omega), w64_eq _ (by omega), ← l2]
    by_cases h1 : r.Num * r'.Den < r'.Num * r.Den
    · simp [h1]; omega
    · by_cases h2 : r'.Num * r.Den < r.Num * r'.Den
      · simp [h1, h2]
      · simp [h1, h2]
/-- the least of the first m quotients at node i -/
structure Mn (F : Nat → List Int) (n i m : Nat) (X D : Int) : Prop where
  dd : 0 < D ∧ D ≤ 10
  xx : -20000000 ≤ X ∧ X ≤ 20000000
  on : ∃ k, k < m ∧ nd (F k) i ≠ -1000000000000000 ∧ X = nd (F n) i - nd (F k) i ∧ D = (n : Int) - k
  le : ∀ k, k < m → nd (F k) i ≠ -1000000000000000 → X * ((n : Int) - k) ≤ (nd (F n) i - nd (F k) i) * D
def InJ (F : Nat → List Int) (n i m : Nat) (st : TRatio × Bool) : Prop :=
  (st.2 = false ∧ ∀ k, k < m → nd (F k) i = -1000000000000000) ∨ (st.2 = true ∧ ∃ X D, RatP X D st.1 ∧ Mn F n i m X D)
def OuJ (F : Nat → List Int) (n m : Nat) (st : TRatio × Bool) : Prop :=
  (st.2 = false ∧ ∀ i, i < m → nd (F n) i = -1000000000000000) ∨ (st.2 = true ∧ ∃ X D, RatP X D st.1 ∧ (∃ i, i < m ∧ nd (F n) i ≠ -1000000000000000 ∧ Mn F n i n X D) ∧ ∀ i, i < m → nd (F n) i ≠ -1000000000000000 → ∀ X' D', Mn F n i n X' D' → X' * D ≤ X * D')
theorem in_step {F : Nat → List Int} {n i k : Nat} (hn : n ≤ 10) (hk : k < n) {X D : Int} {st : TRatio × Bool} {r : TRatio} (hX : X = nd (F n) i - nd (F k) i) (hb : -20000000 ≤ X ∧ X ≤ 20000000) (hD : D = (n : Int) - k) (hne : nd (F k) i ≠ -1000000000000000) (hr : RatP X D r) (h : InJ F n i k st) :
    M.TC (M.bind (M.ite (!st.2) (M.ret true) (M.bind (impl_compareRatios r st.1) (fun x16 => M.ret (decide (x16 < 0))))) (fun x15 => M.ite x15 (M.ret (r, true)) (M.ret (st.1, st.2)))) (InJ F n i (k + 1)) := by
  have self : X * ((n : Int) - k) ≤ (nd (F n) i - nd (F k) i) * D := by rw [← hX, ← hD]; exact Int.le_refl _
  rcases h with ⟨h1, h2⟩ | ⟨h1, X', D', h2, h3⟩
  · rw [h1]
    refine M.TC_bindC (x := true) (M.Conv_ite (fun _ => M.Conv_ret _) (fun t => by cases t)) (M.TC_ite (fun _ => M.TC_ret (.inr ⟨rfl, X, D, hr, by omega, hb, ⟨k, by omega, hne, hX, hD⟩, fun q hq hqne => ?_⟩)) (fun t => by cases t))
    by_cases e : q = k
    · rw [e]; exact self
    · exact absurd (h2 q (by omega)) hqne
  · rw [h1]
    obtain ⟨c, c1, c2, _⟩ := cmpR_ok hr h2 hb h3.xx (by omega) h3.dd.2
    have h3d := h3.dd
    refine M.TC_bindC (x := decide (c < 0)) (M.Conv_ite (fun t => by cases t) (fun _ => M.Conv_bind c1 (M.Conv_ret _))) (M.TC_ite (fun t => M.TC_ret (.inr ⟨rfl, X, D, hr, by omega, hb, ⟨k, by omega, hne, hX, hD⟩, fun q hq hqne => ?_⟩)) (fun t => M.TC_ret (.inr ⟨rfl, X', D', h2, h3.dd, h3.xx, ?_, fun q hq hqne => ?_⟩)))
    · have t := c2.1 (of_decide_eq_true t)
      by_cases e : q = k
      · rw [e]; exact self
      · exact cross_le (Int.le_of_lt t) (h3.le q (by omega) hqne) h3d.1 (by omega) (by omega)
    · obtain ⟨k', g1, g2⟩ := h3.on
      exact ⟨k', by omega, g2⟩
    · have t : ¬ X * D' < X' * D := fun h => of_decide_eq_false t (c2.2 h)
      by_cases e : q = k
      · rw [e, ← hX, ← hD]; omega
      · exact h3.le q (by omega) hqne
theorem least_ex {a : List (List Int)} (hm : Mat a a.length) {i : Nat} (hi : i < a.length) (hne : nd (Fs a a.length) i ≠ -1000000000000000) : ∃ X D, Mn (Fs a) a.length i a.length X D := by
  have hrows := hm.rows
  have hB := mat_ent hm
  have bn := ((fs_ok hm a.length (by omega)).bd hB (by omega) hi).resolve_left hne
  have h0 : nd (Fs a 0) i ≠ -1000000000000000 := by simp [Fs, nd, hi]
  have key : ∀ m, 1 ≤ m → m ≤ a.length → ∃ X D, Mn (Fs a) a.length i m X D := by
    intro m
    induction m with
    | zero => intro h; omega
    | succ m ih =>
      intro _ h2
      have self : ∀ k, k < a.length → nd (Fs a k) i ≠ -1000000000000000 → -20000000 ≤ nd (Fs a a.length) i - nd (Fs a k) i ∧ nd (Fs a a.length) i - nd (Fs a k) i ≤ 20000000 := fun k hk hkne => by
        have := ((fs_ok hm k (by omega)).bd hB (by omega) hi).resolve_left hkne
        omega
      by_cases hm0 : m = 0
      · subst hm0
        refine ⟨_, _, by omega, self 0 (by omega) h0, ⟨0, by omega, h0, rfl, rfl⟩, fun k hk hkne => ?_⟩
        rw [show k = 0 by omega]; exact Int.le_refl _
      · obtain ⟨X, D, h⟩ := ih (by omega) (by omega)
        have hd := h.dd
        by_cases hc : nd (Fs a m) i ≠ -1000000000000000 ∧ (nd (Fs a a.length) i - nd (Fs a m) i) * D < X * ((a.length : Int) - m)
        · refine ⟨_, _, by omega, self m (by omega) hc.1, ⟨m, by omega, hc.1, rfl, rfl⟩, fun k hk hkne => ?_⟩
          by_cases e : k = m
          · rw [e]; exact Int.le_refl _
          · exact cross_le (Int.le_of_lt hc.2) (h.le k (by omega) hkne) hd.1 (by omega) (by omega)
        · refine ⟨X, D, hd, h.xx, ?_, fun k hk hkne => ?_⟩
          · obtain ⟨k, g1, g2⟩ := h.on
            exact ⟨k, by omega, g2⟩
          · by_cases e : k = m
            · subst e
              exact Int.not_lt.1 fun h => hc ⟨hkne, h⟩
            · exact h.le k (by omega) hkne
  exact key a.length (by omega) (Nat.le_refl _)
theorem cycleMean_tc {a : List (List Int)} (hm : Mat a a.length) : M.TC (impl_cycleMean a) (fun r => (r.2 = false ∧ ∀ l w, ¬ Cl a a.length l w) ∨ (r.2 = true ∧ ∃ l W, MaxC a a.length l W ∧ RatP W (l.length : Int) r.1)) := by
  have hrows := hm.rows
  have hB := mat_ent hm
  have hF : ∀ k, k ≤ a.length → FkP a a.length k (Fs a k) := fun k hk => fs_ok hm k (by omega)
  unfold impl_cycleMean
  refine M.TC_bindC ((M.Conv_make (by omega) (by omega)).of (r' := Fs a 0) (by rw [Int.toNat_natCast]; rfl)) ?_
  refine M.TC_bindC (x := tab (a.length + 1) (Fs a)) (Conv_forV (fun i => tab (i + 1) (Fs a)) (by omega) fun i hi => ?_) ?_
  · exact M.Conv_bind (idx_tab (by omega)) (M.Conv_bind (impl_timesVector_ok hm (fs_len a i)) (M.Conv_bind (M.Conv_app (by simp [tab_len]; omega)) ((M.Conv_ret _).of (congrArg Sum.inl (tab_snoc (i + 1) (Fs a))))))
  have rd : ∀ k i, k ≤ a.length → i < a.length → M.Conv (M.idx (tab (a.length + 1) (Fs a)) (k : Int)) (Fs a k) ∧ M.Conv (M.idx (Fs a k) (i : Int)) (nd (Fs a k) i) := fun k i hk hi => ⟨idx_tab (by omega), nd_read (by rw [fs_len]; exact hi)⟩
  refine M.TC_bind (M.TC_forN (OuJ (Fs a) a.length) (by omega) (.inl ⟨rfl, fun i hi => by omega⟩) (fun i st hi hJ => ?_)) (fun st hJ => M.TC_ret ?_)
  · refine M.TC_bind (Mid := OuJ (Fs a) a.length (i + 1)) ?_ (fun st hst => M.TC_ret ⟨_, rfl, hst⟩)
    obtain ⟨n1, n2⟩ := rd a.length i (Nat.le_refl _) hi
    refine M.TC_bindC n1 (M.TC_bindC n2 (M.TC_ite (fun t => M.TC_ret ?_) (fun t => ?_)))
    · have t := eq_of_beq t
      rcases hJ with ⟨h1, h2⟩ | ⟨h1, X, D, h2, ⟨i', h3, h4⟩, h5⟩
      · refine .inl ⟨h1, fun q hq => ?_⟩
        by_cases e : q = i
        · rw [e]; exact t
        · exact h2 q (by omega)
      · refine .inr ⟨h1, X, D, h2, ⟨i', by omega, h4⟩, fun q hq hne => ?_⟩
        by_cases e : q = i
        · rw [e] at hne; exact absurd t hne
        · exact h5 q (by omega) hne
    · have hne : nd (Fs a a.length) i ≠ -1000000000000000 := by simpa using t
      have hbn := ((hF a.length (Nat.le_refl _)).bd hB (by omega) hi).resolve_left hne
      refine M.TC_bind (M.TC_forN (InJ (Fs a) a.length i) (by omega) (.inl ⟨rfl, fun k hk => by omega⟩) (fun k st hk hI => ?_)) (fun x7 hx7 => ?_)
      · refine M.TC_bind (Mid := InJ (Fs a) a.length i (k + 1)) ?_ (fun st hst => M.TC_ret ⟨_, rfl, hst⟩)
        obtain ⟨k1, k2⟩ := rd k i (by omega) hi
        refine M.TC_bindC k1 (M.TC_bindC k2 (M.TC_ite (fun t => M.TC_ret ?_) (fun t => ?_)))
        · have t := eq_of_beq t
          rcases hI with ⟨h1, h2⟩ | ⟨h1, X, D, h2, h3⟩
          · refine .inl ⟨h1, fun q hq => ?_⟩
            by_cases e : q = k
            · rw [e]; exact t
            · exact h2 q (by omega)
          · refine .inr ⟨h1, X, D, h2, h3.dd, h3.xx, ?_, fun q hq hqne => ?_⟩
            · obtain ⟨k', g1, g2⟩ := h3.on
              exact ⟨k', by omega, g2⟩
            · by_cases e : q = k
              · rw [e] at hqne; exact absurd t hqne
              · exact h3.le q (by omega) hqne
        · have hkne : nd (Fs a k) i ≠ -1000000000000000 := by simpa using t
          have hbk := ((hF k (by omega)).bd hB (by omega) hi).resolve_left hkne
          have e1 : w64 (nd (Fs a a.length) i - nd (Fs a k) i) = nd (Fs a a.length) i - nd (Fs a k) i := w64_eq _ (by omega)
          have e2 : w64 ((a.length : Int) - (k : Int)) = (a.length : Int) - (k : Int) := w64_eq _ (by omega)
          obtain ⟨r, _, r2, r3⟩ := ratio_ok (x := nd (Fs a a.length) i - nd (Fs a k) i) (d := (a.length : Int) - (k : Int)) (by omega) (by omega)
          refine M.TC_bindC n1 (M.TC_bindC n2 (M.TC_bindC k1 (M.TC_bindC k2 ?_)))
          rw [e1, e2]
          exact M.TC_bindC r2 (in_step (by omega) hk rfl (by omega) rfl hkne r3 hI)
      · -- the least quotient stands
        have h0 : nd (Fs a 0) i ≠ -1000000000000000 := by simp [Fs, nd, hi]
        obtain ⟨X, D, hr, hmn⟩ : ∃ X D, RatP X D x7.1 ∧ Mn (Fs a) a.length i a.length X D := by
          rcases hx7 with ⟨_, h2⟩ | ⟨_, h2⟩
          · exact absurd (h2 0 (by omega)) h0
          · exact h2
        have self : ∀ X' D', Mn (Fs a) a.length i a.length X' D' → X' * D ≤ X * D' := fun X' D' h' => by
          obtain ⟨k, g1, g2, g3, g4⟩ := hmn.on
          have := h'.le k g1 g2
          rw [← g3, ← g4] at this
          exact this
        rcases hJ with ⟨h1, h2⟩ | ⟨h1, X', D', h2, ⟨i', h3, h4, h4'⟩, h5⟩
        · rw [h1]
          refine M.TC_bindC (x := true) (M.Conv_ite (fun _ => M.Conv_ret _) (fun t => by cases t)) (M.TC_ite (fun _ => M.TC_ret (.inr ⟨rfl, X, D, hr, ⟨i, by omega, hne, hmn⟩, fun q hq hqne => ?_⟩)) (fun t => by cases t))
          by_cases e : q = i
          · rw [e]; exact self
          · exact absurd (h2 q (by omega)) hqne
        · rw [h1]
          have d1 := hmn.dd
          have d2 := h4'.dd
          obtain ⟨c, c1, _, c2⟩ := cmpR_ok hr h2 hmn.xx h4'.xx d1.2 d2.2
          refine M.TC_bindC (x := decide (0 < c)) (M.Conv_ite (fun t => by cases t) (fun _ => M.Conv_bind c1 (M.Conv_ret _))) (M.TC_ite (fun t => M.TC_ret (.inr ⟨rfl, X, D, hr, ⟨i, by omega, hne, hmn⟩, fun q hq hqne X2 D2 hq2 => ?_⟩)) (fun t => M.TC_ret (.inr ⟨rfl, X', D', h2, ⟨i', by omega, h4, h4'⟩, fun q hq hqne X2 D2 hq2 => ?_⟩)))
          · have t := c2.1 (of_decide_eq_true t)
            by_cases e : q = i
            · rw [e] at hq2; exact self X2 D2 hq2
            · exact cross_le (h5 q (by omega) hqne X2 D2 hq2) (Int.le_of_lt t) d2.1 hq2.dd.1 d1.1
          · have t : ¬ X' * D < X * D' := fun h => of_decide_eq_false t (c2.2 h)
            by_cases e : q = i
            · rw [e] at hq2
              exact cross_le (self X2 D2 hq2) (by omega) d1.1 hq2.dd.1 d2.1
            · exact h5 q (by omega) hqne X2 D2 hq2
  · rcases hJ with ⟨h1, h2⟩ | ⟨h1, X, D, h2, ⟨i, h3, h4, h4'⟩, h5⟩
    · refine .inl ⟨h1, fun l w hc => ?_⟩
      obtain ⟨v, m, u, g1, g2⟩ := hc.long a.length
      rw [show m = a.length + (m - a.length) by omega] at g2
      obtain ⟨x, w1, w2, g3, _, _⟩ := Wlk.split a.length _ g2
      exact ((hF a.length (Nat.le_refl _)).cpl x v w1 g3).1 (h2 x g3.lt.2)
    · obtain ⟨j, hw⟩ := ((hF a.length (Nat.le_refl _)).snd i h3).resolve_left h4
      obtain ⟨l, W, hmc⟩ := max_cycle (by omega) hB (hw.cyc (Nat.le_refl _))
      obtain ⟨hs, hp⟩ := hmc.sh (by omega) hB
      have hlen := hmc.wc.len
      refine .inr ⟨h1, l, W, hmc, ?_⟩
      have d1 := h4'.dd
      -- from above
      have up : X * (l.length : Int) ≤ W * D := by
        obtain ⟨k, g1, g2, g3⟩ := karp_le hs hp hF h3 h4
        have := h4'.le k g1 g2
        refine cross_le (X := nd (Fs a a.length) i - nd (Fs a k) i) (D := (a.length : Int) - k) this ?_ (by omega) d1.1 (by omega)
        rw [Int.mul_comm]; exact g3
      have dn : W * D ≤ X * (l.length : Int) := by
        obtain ⟨i0, g0, g1, g2⟩ := karp_ge (by omega) hs hp hmc.wc.cl rfl hF
        -- the least quotient at i0
        obtain ⟨X0, D0, hmn⟩ : ∃ X0 D0, Mn (Fs a) a.length i0 a.length X0 D0 := least_ex hm g0 g1
        obtain ⟨k, k1, k2, k3, k4⟩ := hmn.on
        have := g2 k k1 k2
        rw [← k3, ← k4] at this
        have d0 := hmn.dd
        rw [Int.mul_comm (l.length : Int)] at this
        exact cross_le (X := X0) (D := D0) this (h5 i0 g0 g1 X0 D0 hmn) d0.1 (by omega) d1.1
      obtain ⟨r, _, _, r3⟩ := ratio_ok (x := W) (d := (l.length : Int)) (by have := hs.hW; omega) (by omega)
      have := (h2.eq_iff d1.1 (by omega) r3).2 (by omega)
      rw [this]; exact r3

theorem Chn.arc {a : List (List Int)} {n : Nat} {x y : List Nat} {u v : Nat} {w : Int} (h : Chn a n (x ++ u :: v :: y) w) : entA a v u ≠ -1000000000000000 := by
  obtain ⟨w1, w2, _, _, h2⟩ := h.split
  cases h2 with
  | cons _ _ _ _ _ ha _ => exact ha
theorem Chn.bd1 {a : List (List Int)} {n : Nat} {B : Int} (hB : Ent a n B) (h0 : 0 ≤ B) : ∀ {l : List Nat} {w : Int}, Chn a n l w → -(B * (l.length : Int)) ≤ w ∧ w ≤ B * (l.length : Int) := by
  intro l w h
  induction h with
  | one v hv => simp; omega
  | cons u v r w hu ha h ih =>
    have := (hB v u (h.lt v (by simp)) hu).resolve_left ha
    simp only [List.length_cons, Int.natCast_add, Int.mul_add, Int.natCast_one, Int.mul_one] at ih ⊢
    omega
theorem within_ok {l : List Nat} {n : Nat} (hl : ∀ x ∈ l, x < n) (hll : l.length ≤ 1000) (hn : 1 ≤ n ∧ n ≤ 10) : M.Conv (spec_l01Within (toI l) ((toI l).length : Int) 0 (w64 ((n : Int) - 1))) true := by
  unfold spec_l01Within
  have ew : w64 ((n : Int) - 1) = (n : Int) - 1 := w64_eq _ (by omega)
  rw [ew]
  apply M.TC.conv
  refine M.TC_bind (M.TC_forE (n := (toI l).length) (fun _ _ => True) (fun _ => False) (by rw [List.length_map]; omega) trivial (fun i s hi _ => ?_)) fun y hy => ?_
  · have hi' : i < l.length := by simpa using hi
    have hx := hl _ (pf_mem hi')
    refine M.TC_bindC (toI_read hi') (M.TC_bindC (spec_l01In_ok _ _ _) (M.TC_ite (fun t => ?_) (fun _ => M.TC_ret (.inl ⟨_, rfl, trivial⟩))))
    exfalso
    simp at t
    omega
  · rcases hy with ⟨s, rfl, _⟩ | ⟨r, _, h⟩
    · exact M.TC_ret (by simp)
    · exact absurd h id
theorem walk_tc {a : List (List Int)} {n : Nat} (hs : Shp a n) (al : a.length = n) (hB : Ent a n 1000000) {l : List Nat} {W : Int} (h : Chn a n l W) (hl : 1 ≤ l.length ∧ l.length ≤ 11) : M.Conv (spec_l03Walk a (toI l)) (W, true) := by
  apply M.TC.conv
  unfold spec_l03Walk
  have hlen : (toI l).length = l.length := by simp
  refine M.TC_bind (M.TC_for (Post := fun y => y = (Sum.inl W : Int ⊕ (Int × Bool))) (fun i s => ∃ k : Nat, i = k ∧ 1 ≤ k ∧ k ≤ l.length ∧ Chn a n (l.take k) s) 0 (by omega) (by omega) ⟨1, rfl, by omega, by omega, ?_⟩ (fun i s h1 h2 hI => ?_) (fun i s hi hI => ?_)) fun y hy => ?_
  · cases l with
    | nil => simp at hl
    | cons v r => exact .one v (h.lt v (by simp))
  · obtain ⟨k, rfl, k1, k2, hc⟩ := hI
    rw [hlen] at h2
    have hk : k < l.length := by omega
    obtain ⟨q, rfl⟩ : ∃ q, k = q + 1 := ⟨k - 1, by omega⟩
    have e1 : l.take (q + 1) = l.take q ++ [pf l q] := by
      rw [List.take_add_one]
      simp [pf, show q < l.length by omega]
    have e2 : l.take (q + 1 + 1) = l.take q ++ [pf l q] ++ [pf l (q + 1)] := by
      rw [List.take_add_one, e1]
      simp [pf, hk]
    have e3 : l = l.take q ++ pf l q :: pf l (q + 1) :: l.drop (q + 1 + 1) := by
      have := (List.take_append_drop (q + 1 + 1) l).symm
      rw [e2] at this
      simpa using this
    have hu : pf l q < n := h.lt _ (pf_mem (by omega))
    have hv : pf l (q + 1) < n := h.lt _ (pf_mem hk)
    have ha : entA a (pf l (q + 1)) (pf l q) ≠ -1000000000000000 := by rw [e3] at h; exact h.arc
    have hb := (hB _ _ hv hu).resolve_left ha
    have hcb := hc.bd1 hB (by omega)
    have hlt : (l.take (q + 1)).length ≤ 11 := by rw [List.length_take]; omega
    have ew : w64 (((q + 1 : Nat) : Int) - 1) = (q : Int) := by rw [w64_eq _ (by omega)]; omega
    rw [ew]
    have hrl := hs.row _ (List.mem_of_getElem? (rowN_get (a := a) (i := pf l (q + 1)) (by omega)))
    have rd := nd_read (l := rowN a (pf l (q + 1))) (i := pf l q) (by omega)
    rw [nd_row (by omega)] at rd
    refine M.TC_bindC (toI_read hk) (M.TC_bindC (get_row (rowN_get (by omega))) (M.TC_bindC (toI_read (by omega)) (M.TC_bindC rd (M.TC_ite (fun t => absurd (eq_of_beq t) ha) (fun _ => M.TC_ret (.inl ⟨_, rfl, q + 1 + 1, by omega, by omega, by omega, ?_⟩))))))
    rw [w64_eq _ (by omega), e2]
    rw [e1] at hc
    exact hc.snoc hv ha
  · obtain ⟨k, rfl, k1, k2, hc⟩ := hI
    have : k = l.length := by omega
    rw [this, List.take_of_length_le (Nat.le_refl _)] at hc
    rw [hc.unique h]
  · subst hy
    exact M.TC_ret rfl
theorem cycle_conv {a : List (List Int)} {n : Nat} (hs : Shp a n) (al : a.length = n) (hB : Ent a n 1000000) {l : List Nat} {W : Int} (h : WC a n l W) : M.Conv (spec_l03Cycle a (toI l)) (W, true) := by
  have hlen := h.len
  have hn := hs.cols
  obtain ⟨j, r, e, hc⟩ := h.cl
  apply M.TC.conv
  unfold spec_l03Cycle
  have hl : (toI l).length = l.length := by simp
  refine M.TC_bindC (x := false) (M.Conv_ite (fun t => by rw [hl] at t; have t := eq_of_beq t; omega) (fun _ => ?_)) (M.TC_ite (fun t => by cases t) (fun _ => ?_))
  · unfold spec_l03Nodes
    rw [al]
    exact M.Conv_bind (M.Conv_bind (within_ok h.cl.lt (by omega) hn) (M.Conv_ret _)) (M.Conv_ret _)
  refine M.TC_bind (M.TC_forE (n := (toI l).length) (fun _ _ => True) (fun _ => False) (by rw [hl]; omega) trivial (fun i s hi _ => ?_)) fun y hy => ?_
  · have hi' : i < l.length := by omega
    refine M.TC_bindC (M.Conv_sub (by omega) (by omega) (by omega)) (M.TC_bindC (toI_read hi') (M.TC_bindC (l01Has_ok _ (by simp; omega)) (M.TC_ite (fun t => ?_) (fun _ => M.TC_ret (.inl ⟨_, rfl, trivial⟩)))))
    exfalso
    simp only [Int.toNat_zero, List.drop_zero, Int.toNat_natCast, Nat.sub_zero, List.any_eq_true, beq_iff_eq] at t
    obtain ⟨v, hv, ev⟩ := t
    rw [← List.map_take] at hv
    obtain ⟨u, hu, rfl⟩ := List.mem_map.1 hv
    have ev : u = pf l i := by omega
    subst ev
    obtain ⟨t, ht, et⟩ := List.getElem_of_mem hu
    rw [List.length_take] at ht
    rw [List.getElem_take] at et
    have hp := List.pairwise_iff_getElem.1 h.nd t i (by omega) hi' (by omega)
    exact hp (by rw [et]; simp [pf, hi'])
  · rcases hy with ⟨s, rfl, _⟩ | ⟨r, _, h⟩
    · have hw := walk_tc hs al hB hc (by simp; omega)
      have h0 : M.Conv (M.idx (toI l) 0) (j : Int) := by rw [e]; exact M.Conv_idx (i := 0) rfl
      refine M.TC_bindC (x := (W, true)) (M.Conv_bind h0 (M.Conv_bind (spec_l01Own_ok (by simp [smI]; omega)) (M.Conv_bind (x := toI (l ++ [j])) ((M.Conv_app (by simp; omega)).of (by simp)) (M.Conv_bind hw (M.Conv_ret _))))) (M.TC_ret rfl)
    · exact absurd h id

theorem shift_conv {a : List (List Int)} {n : Nat} (hs : Shp a n) (al : a.length = n) {r : TRatio} (hsh : Sh a n r.Den r.Num) : M.Conv (spec_l04Shift a r) (matF n n (shF a r.Den r.Num)) := by
  have hn := hs.cols
  unfold spec_l04Shift
  rw [al]
  refine M.Conv_bind (spec_l02Own_ok hs) (M.Conv_bind (x := matF n n (shF a r.Den r.Num)) ?_ (M.Conv_ret _))
  have e0 : a = matF n n (part (shF a r.Den r.Num) (entA a) 0 0) := by rw [part_zero]; have := mat_eq hs; rwa [al] at this
  have hloop : M.Conv (M.forI 0 (n : Int) (fun s => s) (fun i1 => (fun (s1 : (List (List Int))) => M.bind (M.forI 0 (n : Int) (fun s => s) (fun i2 => (fun (s2 : (List (List Int))) => M.bind (M.idx a i1) (fun x4 => M.bind (M.idx x4 i2) (fun x5 => M.bind (M.ite (x5 != (-1000000000000000)) (M.bind (M.idx s2 i1) (fun x6 => M.bind (M.idx a i1) (fun x7 => M.bind (M.idx x7 i2) (fun x8 => M.bind (M.idx x6 i2) (fun _ => M.bind (M.upd x6 i2 (w64 ((w64 (r.Den * x8)) - r.Num))) (fun l1 => M.ret (s2.set i1.toNat l1))))))) (M.ret s2)) (fun (s3 : (List (List Int))) => M.ret (.inl s3)))))) s1) (fun x3 => M.ret (.inl x3)))) (matF n n (part (shF a r.Den r.Num) (entA a) 0 0))) (matF n n (shF a r.Den r.Num)) := by
    refine (Conv_forV (fun i => matF n n (part (shF a r.Den r.Num) (entA a) i 0)) (by omega) fun i hi => ?_).of part_all
    refine M.Conv_bind (Conv_forV (fun j => matF n n (part (shF a r.Den r.Num) (entA a) i j)) (by omega) fun j hj => ?_) ((M.Conv_ret _).of (congrArg Sum.inl part_row))
    have hrl := hs.row _ (List.mem_of_getElem? (rowN_get (a := a) (i := i) (by omega)))
    have g1 : M.Conv (M.idx a (i : Int)) (rowN a i) := get_row (rowN_get (by omega))
    have g2 := nd_read (l := rowN a i) (i := j) (by omega)
    rw [nd_row (by omega)] at g2
    refine M.Conv_bind g1 (M.Conv_bind g2 (M.Conv_bind (x := matF n n (part (shF a r.Den r.Num) (entA a) i (j + 1))) ?_ (M.Conv_ret _)))
    have hv := hsh.val hi hj
    rw [entA_matF hi hj] at hv
    refine M.Conv_ite (fun t => ?_) (fun t => ?_)
    · have t : entA a i j ≠ -1000000000000000 := by simpa using t
      have hv := hv.resolve_left fun h => t h.1
      refine M.Conv_bind (idx_tab hi) (M.Conv_bind g1 (M.Conv_bind g2 (M.Conv_bind (idx_tab hj) (M.Conv_bind (M.Conv_upd (by rw [tab_len]; exact hj)) ((M.Conv_ret _).of ?_)))))
      rw [← part_step]
      have hW := hsh.hW
      congr 2
      rw [w64_eq (r.Den * entA a i j) (by omega), w64_eq _ (by omega), hv.2.1]
    · have t : entA a i j = -1000000000000000 := by simpa using t
      have hv : shF a r.Den r.Num i j = entA a i j := by
        rcases hv with h | h
        · rw [h.1, h.2]
        · exact absurd t h.1
      refine (M.Conv_ret _).of (matF_congr fun p q hp hq => ?_)
      unfold part
      by_cases e : p = i ∧ q = j
      · obtain ⟨rfl, rfl⟩ := e
        rw [hv]
        cases decide (p < p) || (decide (p = p) && decide (q < q)) <;> cases decide (p < p) || (decide (p = p) && decide (q < q + 1)) <;> rfl
      · congr 1
        rw [Bool.eq_iff_iff]; simp; omega
  rw [← e0] at hloop
  exact hloop
theorem ratp_sh {a : List (List Int)} {n L : Nat} {W : Int} {r : TRatio} (hA : Ent a n 1000000) (hL : L ≤ 10) (hW : -10000000 ≤ W ∧ W ≤ 10000000) (hr : RatP W (L : Int) r) : Sh a n r.Den r.Num := by
  have p := hr.pos
  have b := hr.bds (by omega)
  refine ⟨hA, by omega, ?_⟩
  obtain ⟨g, g0, e1, e2⟩ := hr.mul
  obtain ⟨k, hk, rfl⟩ : ∃ k, 0 ≤ k ∧ g = k + 1 := ⟨g - 1, by omega, by omega⟩
  rw [Int.add_mul, Int.one_mul] at e1
  by_cases hn : 0 ≤ r.Num
  · have := Int.mul_nonneg hk hn
    omega
  · have := Int.mul_nonneg hk (show 0 ≤ -r.Num by omega)
    rw [Int.mul_neg] at this
    omega
theorem Chn.unsh {a : List (List Int)} {n : Nat} {L W : Int} (hs : Sh a n L W) {l : List Nat} {w : Int} (h : Chn (matF n n (shF a L W)) n l w) : ∃ w', Chn a n l w' ∧ w = L * w' - W * ((l.length : Int) - 1) := by
  induction h with
  | one v hv => exact ⟨0, .one v hv, by simp⟩
  | cons u v r w hu ha h ih =>
    obtain ⟨w', h1, rfl⟩ := ih
    rcases hs.val (h1.lt v (by simp)) hu with e | e
    · exact absurd e.2 ha
    · refine ⟨_, .cons u v r w' hu e.1 h1, ?_⟩
      rw [e.2.1]
      simp only [List.length_cons, Int.natCast_add, Int.natCast_one]
      grind
theorem Chn.sh {a : List (List Int)} {n : Nat} {L W : Int} (hs : Sh a n L W) {l : List Nat} {w : Int} (h : Chn a n l w) : Chn (matF n n (shF a L W)) n l (L * w - W * ((l.length : Int) - 1)) := by
  induction h with
  | one v hv => simpa using Chn.one v hv
  | cons u v r w hu ha h ih =>
    rcases hs.val (h.lt v (by simp)) hu with e | e
    · exact absurd e.1 ha
    · have := Chn.cons u v r _ hu (by rw [e.2.1]; omega) ih
      rw [e.2.1] at this
      have e2 : L * (entA a v u + w) - W * (((u :: v :: r).length : Int) - 1) = L * entA a v u - W + (L * w - W * (((v :: r).length : Int) - 1)) := by
        simp only [List.length_cons, Int.natCast_add, Int.natCast_one]
        grind
      rw [e2]; exact this
theorem WC.unsh {a : List (List Int)} {n : Nat} {L W : Int} (hs : Sh a n L W) {l : List Nat} {w : Int} (h : WC (matF n n (shF a L W)) n l w) : ∃ w', WC a n l w' ∧ w = L * w' - W * (l.length : Int) := by
  obtain ⟨j, r, e, hc⟩ := h.cl
  obtain ⟨w', h1, h2⟩ := hc.unsh hs
  refine ⟨w', ⟨⟨j, r, e, h1⟩, h.nd, h.fst⟩, ?_⟩
  rw [h2]; simp
theorem WC.sh {a : List (List Int)} {n : Nat} {L W : Int} (hs : Sh a n L W) {l : List Nat} {w : Int} (h : WC a n l w) : WC (matF n n (shF a L W)) n l (L * w - W * (l.length : Int)) := by
  obtain ⟨j, r, e, hc⟩ := h.cl
  have := hc.sh hs
  refine ⟨⟨j, r, e, ?_⟩, h.nd, h.fst⟩
  rw [show L * w - W * (l.length : Int) = L * w - W * (((l ++ [j]).length : Int) - 1) by simp]
  exact this
theorem sign_iff {g D N w W L len : Int} (hg : 0 < g) (e1 : W = g * N) (e2 : L = g * D) : (0 < D * w - N * len ↔ W * len < w * L) ∧ (D * w - N * len = 0 ↔ W * len = w * L) := by
  have k1 : w * L - W * len = g * (D * w - N * len) := by rw [e1, e2]; grind
  constructor
  · constructor
    · intro h
      have := Int.mul_pos hg h
      omega
    · intro h
      apply Int.not_le.1
      intro h2
      have := Int.mul_nonneg (show 0 ≤ g by omega) (show 0 ≤ -(D * w - N * len) by omega)
      rw [Int.mul_neg] at this
      omega
  · constructor
    · intro h
      rw [h, Int.mul_zero] at k1
      omega
    · intro h
      have : g * (D * w - N * len) = g * 0 := by rw [Int.mul_zero]; omega
      exact Int.eq_of_mul_eq_mul_left (by omega) this
theorem MaxC.of {a : List (List Int)} {n : Nat} {l : List Nat} {W : Int} (hw : WC a n l W) (h : ∀ l' w', WC a n l' w' → w' * (l.length : Int) ≤ W * (l'.length : Int)) : MaxC a n l W := by
  refine ⟨hw, fun l' w' hc => Int.not_lt.1 fun hlt => ?_⟩
  obtain ⟨l2, w2, h2, hp, _⟩ := hc.written (P := fun k w => W * (k : Int) < w * (l.length : Int)) (fun k1 k2 w1 w2 h => by
    rw [Int.natCast_add, Int.mul_add, Int.add_mul] at h
    omega) _ rfl hlt
  have := h l2 w2 h2
  omega
theorem toI_inj : ∀ {l l' : List Nat}, toI l = toI l' → l = l'
  | [], [], _ => rfl
  | [], _ :: _, h => by simp at h
  | _ :: _, [], h => by simp at h
  | x :: l, y :: l', h => by
    simp only [List.map_cons, List.cons.injEq] at h
    rw [toI_inj h.2, show x = y by omega]
theorem best_tc {a : List (List Int)} (hm : Mat a a.length) : M.TC (spec_l04Best a) (fun q => (q.2 = false ∧ ∀ l w, ¬ Cl a a.length l w) ∨ (q.2 = true ∧ ∃ l W, q.1 = toI l ∧ MaxC a a.length l W)) := by
  have hrows := hm.rows
  have hA := mat_ent hm
  have hs := hm.shp
  have bw : ∀ l w, WC a a.length l w → (1 ≤ l.length ∧ l.length ≤ 10) ∧ -10000000 ≤ w ∧ w ≤ 10000000 := fun l w h => by
    have h1 := h.len
    have h2 := h.cl.bd hA
    omega
  obtain ⟨K, hK⟩ : ∃ K : List Int → Int, ∀ l W, WC a a.length l W → K (toI l) = W * ((2520 / l.length : Nat) : Int) := by
    have : ∀ s : List Int, ∃ v : Int, ∀ l W, s = toI l → WC a a.length l W → v = W * ((2520 / l.length : Nat) : Int) := by
      intro s
      by_cases h : ∃ l W, s = toI l ∧ WC a a.length l W
      · obtain ⟨l, W, e, hw⟩ := h
        refine ⟨W * ((2520 / l.length : Nat) : Int), fun l' W' e' hw' => ?_⟩
        have el : l = l' := by
          have := e.symm.trans e'
          exact toI_inj this
        subst el
        rw [hw.cl.unique hw'.cl]
      · exact ⟨0, fun l W e hw => absurd ⟨l, W, e, hw⟩ h⟩
    obtain ⟨K, hK⟩ := Classical.skolem.1 this
    exact ⟨K, fun l W hw => hK _ l W rfl hw⟩
  unfold spec_l04Best
  refine M.TC_bind (over_tc hs rfl hA (by omega) (by omega)) fun q hq => ?_
  refine M.TC_bind (Mid := fun (y : List Int ⊕ (List Int × Bool)) => (∃ s, y = .inl s ∧ ∀ l w, ¬ Cl a a.length l w) ∨ ∃ l W, y = .inr (toI l, true) ∧ MaxC a a.length l W) (M.TC_loop (fun s => (s = [] ∧ ∀ l w, ¬ Cl a a.length l w) ∨ ∃ l W, s = toI l ∧ WC a a.length l W) (fun s => (10000000 * 2520 - K s).toNat) q ?_ (fun s hI => ?_)) (fun y hy => ?_)
  · rcases hq with ⟨h1, h2⟩ | ⟨l, w, h1, h2, _⟩
    · refine .inl ⟨h1, fun l w hc => ?_⟩
      obtain ⟨l1, w1, h3, _⟩ := hc.written (P := fun _ _ => True) (fun _ _ _ _ _ => .inl trivial) _ rfl trivial
      have := bw l1 w1 h3
      exact h2 l1 w1 h3 (by omega)
    · exact .inr ⟨l, w, h1, h2⟩
  · rcases hI with ⟨rfl, hno⟩ | ⟨l, W, rfl, hw⟩
    · exact M.TC_ite (fun t => by simp at t) (fun _ => M.TC_ret (.inr ⟨_, rfl, .inl ⟨_, rfl, hno⟩⟩))
    · obtain ⟨b1, b2⟩ := bw l W hw
      have hll : (toI l).length = l.length := by simp
      refine M.TC_ite (fun _ => ?_) (fun t => by have := of_decide_eq_false t; rw [hll] at this; omega)
      obtain ⟨r, r1, _, hr⟩ := ratio_ok (x := W) (d := (l.length : Int)) (by omega) (by omega)
      have hsh := ratp_sh hA b1.2 b2 hr
      have hmean : M.Conv (spec_l04Mean a (toI l)) (r, true) := by
        unfold spec_l04Mean
        rw [hll]
        exact M.Conv_bind (cycle_conv hs rfl hA hw) (M.Conv_ite (fun t => by cases t) (fun _ => M.Conv_bind r1 (M.Conv_ret _)))
      obtain ⟨g, g0, e1, e2⟩ := hr.mul
      have hsc := shift_conv hs rfl hsh
      have hbs : Shp (matF a.length a.length (shF a r.Den r.Num)) a.length := shp_of (by omega) (by omega)
      refine M.TC_bindC hmean (M.TC_bindC hsc (M.TC_bind (over_tc hbs (matF_len _ _ _) hsh.bd (by omega) (by omega)) fun x5 h5 => ?_))
      rcases h5 with ⟨rfl, hnone⟩ | ⟨l2, w2, rfl, h5, h6⟩
      · refine M.TC_ite (fun _ => ?_) (fun t => by simp at t)
        have hmax : MaxC a a.length l W := MaxC.of hw fun l' w' hw' => Int.not_lt.1 fun hlt => hnone l' _ (hw'.sh hsh) ((sign_iff g0 e1 e2).1.2 hlt)
        refine M.TC_bindC hsc (M.TC_bind (over_tc hbs (matF_len _ _ _) hsh.bd (by omega) (by omega)) fun x7 h7 => M.TC_ret (.inr ⟨_, rfl, .inr ?_⟩))
        rcases h7 with ⟨rfl, hnone2⟩ | ⟨l2, w2, rfl, h7, h8⟩
        · exfalso
          refine hnone2 l _ (hw.sh hsh) ?_
          rw [(sign_iff (w := W) (len := (l.length : Int)) g0 e1 e2).2.2 rfl]; omega
        · obtain ⟨w', h9, h10⟩ := h7.unsh hsh
          have h11 := hnone l2 w2 h7
          have h12 := (sign_iff (w := w') (len := (l2.length : Int)) g0 e1 e2).2.1 (by omega)
          refine ⟨l2, w', rfl, h9, fun l' w2' hc => ?_⟩
          have hx := hmax.max l' w2' hc
          have b3 := bw l2 w' h9
          -- the same mean
          refine cross_le (X := W) (D := (l.length : Int)) hx ?_ (by omega) ?_ (by omega)
          · rw [h12]; exact Int.le_refl _
          · obtain ⟨j, rr, ee, _⟩ := hc
            rw [ee]; simp
      · have hlen2 : (toI l2).length = l2.length := by simp
        obtain ⟨w', h9, h10⟩ := h5.unsh hsh
        have b3 := bw l2 w' h9
        refine M.TC_ite (fun t => by have := eq_of_beq t; rw [hlen2] at this; omega) (fun _ => M.TC_ret (.inl ⟨_, rfl, .inr ⟨l2, w', rfl, h9⟩, ?_⟩))
        have hlt := (sign_iff (w := w') (len := (l2.length : Int)) g0 e1 e2).1.1 (by omega)
        rw [hK l W hw, hK l2 w' h9]
        have d1 := div2520 b1.1 b1.2
        have d2 := div2520 b3.1.1 b3.1.2
        have hkey : W * ((2520 / l.length : Nat) : Int) < w' * ((2520 / l2.length : Nat) : Int) := by
          apply Int.not_le.1
          intro hle
          have := key_le hle d1.1 d2.1 (by omega) (by omega)
          omega
        have up : w' * ((2520 / l2.length : Nat) : Int) ≤ 10000000 * 2520 := by
          have := Int.mul_le_mul_of_nonneg_right b3.2.2 (show (0 : Int) ≤ ((2520 / l2.length : Nat) : Int) by omega)
          omega
        omega
  · rcases hy with ⟨s, rfl, hno⟩ | ⟨l, W, rfl, hmc⟩
    · exact M.TC_ret (.inl ⟨rfl, hno⟩)
    · exact M.TC_ret (.inr ⟨rfl, l, W, rfl, hmc⟩)

def critB (b S : List (List Int)) (j i : Nat) : Bool := timesI (entA b i j) (entA S j i) == 0
def critF (b S a : List (List Int)) (i j : Nat) : Int := bif critB b S j i then entA a i j else -1000000000000000
theorem RatP.nopos {a : List (List Int)} {n : Nat} {l : List Nat} {W : Int} {r : TRatio} (hmc : MaxC a n l W) (hr : RatP W (l.length : Int) r) (hsh : Sh a n r.Den r.Num) : NoPos (matF n n (shF a r.Den r.Num)) n := by
  obtain ⟨g, g0, e1, e2⟩ := hr.mul
  refine sh_nopos hsh fun l' w' hc => ?_
  have h1 := hmc.max l' w' hc
  apply Int.not_lt.1
  intro hlt
  have := (sign_iff (D := r.Den) (N := r.Num) (w := w') (len := (l'.length : Int)) g0 e1 e2).1.1 (by rw [Int.mul_comm r.Den]; omega)
  omega
theorem MaxC.same {a : List (List Int)} {n : Nat} {l l' : List Nat} {W W' : Int} (h : MaxC a n l W) (h' : MaxC a n l' W') {r r' : TRatio} (hr : RatP W (l.length : Int) r) (hr' : RatP W' (l'.length : Int) r') : r = r' := by
  have h1 := h.max l' W' h'.wc.cl
  have h2 := h'.max l W h.wc.cl
  have h3 := h.wc.len
  have h4 := h'.wc.len
  exact (hr.eq_iff (by omega) (by omega) hr').2 (by omega)
/-- what both roads reach: the mean, the shifted matrix and its star -/
structure CritP (a : List (List Int)) (l : List Nat) (W : Int) (r : TRatio) (S : List (List Int)) : Prop where
  mc : MaxC a a.length l W
  rp : RatP W (l.length : Int) r
  sh : Sh a a.length r.Den r.Num
  np : NoPos (matF a.length a.length (shF a r.Den r.Num)) a.length
  st : StarM (matF a.length a.length (shF a r.Den r.Num)) a.length S
theorem crit_get {a : List (List Int)} (hm : Mat a a.length) {l : List Nat} {W : Int} (hmc : MaxC a a.length l W) : ∃ r S, CritP a l W r S := by
  have hrows := hm.rows
  have hA := mat_ent hm
  have hlen := hmc.wc.len
  have hb := hmc.wc.cl.bd hA
  obtain ⟨r, _, _, hr⟩ := ratio_ok (x := W) (d := (l.length : Int)) (by omega) (by omega)
  have hsh := ratp_sh hA (by omega) (by omega) hr
  have hp := RatP.nopos hmc hr hsh
  have hbs : Shp (matF a.length a.length (shF a r.Den r.Num)) a.length := shp_of (by omega) (by omega)
  obtain ⟨S, _, hS⟩ := starOf_ok hbs (matF_len _ _ _) hsh.bd (by omega) (by omega) hp
  exact ⟨r, S, hmc, hr, hsh, hp, hS⟩
theorem CritP.ent {a : List (List Int)} {l : List Nat} {W : Int} {r : TRatio} {S : List (List Int)} (hm : Mat a a.length) (h : CritP a l W r S) {i j : Nat} (hi : i < a.length) (hj : j < a.length) :
    (entA (matF a.length a.length (shF a r.Den r.Num)) i j = -1000000000000000 ∨ (-20000000 ≤ entA (matF a.length a.length (shF a r.Den r.Num)) i j ∧ entA (matF a.length a.length (shF a r.Den r.Num)) i j ≤ 20000000)) ∧ (entA S j i = -1000000000000000 ∨ (-200000000 ≤ entA S j i ∧ entA S j i ≤ 200000000)) := by
  have hrows := hm.rows
  refine ⟨h.sh.bd i j hi hj, ?_⟩
  have := h.st.bd h.np h.sh.bd (by omega) (by omega) hj hi
  unfold Bd at this
  omega
theorem critB_iff {b S : List (List Int)} {j i : Nat} (hb : entA b i j = -1000000000000000 ∨ (-20000000 ≤ entA b i j ∧ entA b i j ≤ 20000000)) (hS : entA S j i = -1000000000000000 ∨ (-200000000 ≤ entA S j i ∧ entA S j i ≤ 200000000)) : critB b S j i = true ↔ entA b i j ≠ -1000000000000000 ∧ entA S j i ≠ -1000000000000000 ∧ entA b i j + entA S j i = 0 := by
  unfold critB timesI
  rw [beq_iff_eq]
  cases e : (entA b i j == (-1000000000000000)) || (entA S j i == (-1000000000000000)) with
  | true =>
    simp only [Bool.or_eq_true, beq_iff_eq] at e
    simp only [cond_true]
    omega
  | false =>
    simp only [Bool.or_eq_false_iff, beq_eq_false_iff_ne, ne_eq] at e
    simp only [cond_false]
    rw [w64_eq _ (by omega)]
    exact ⟨fun h => ⟨e.1, e.2, h⟩, fun h => h.2.2⟩
theorem shiftedI_ok {a : List (List Int)} {n : Nat} (hs : Shp a n) (al : a.length = n) {r : TRatio} (hsh : Sh a n r.Den r.Num) : M.Conv (impl_shifted a r) (matF n n (shF a r.Den r.Num)) := by
  have hn := hs.cols
  unfold impl_shifted
  rw [al]
  refine M.Conv_bind ?_ (M.Conv_ret _)
  refine matrixBy_ok (fun i j => impl_shifted_1 i j a r) _ (by omega) (by omega) fun i j hi hj => ?_
  have hrl := hs.row _ (List.mem_of_getElem? (rowN_get (a := a) (i := i) (by omega)))
  have g1 : M.Conv (M.idx a (i : Int)) (rowN a i) := get_row (rowN_get (by omega))
  have g2 := nd_read (l := rowN a i) (i := j) (by omega)
  rw [nd_row (by omega)] at g2
  have hv := hsh.val hi hj
  rw [entA_matF hi hj] at hv
  refine M.Conv_bind g1 (M.Conv_bind g2 (M.Conv_ite (fun t => (M.Conv_ret _).of ?_) (fun t => M.Conv_bind g1 (M.Conv_bind g2 ((M.Conv_ret _).of ?_)))))
  · have t : entA a i j = -1000000000000000 := eq_of_beq t
    rcases hv with h | h
    · exact h.2.symm
    · exact absurd t h.1
  · have t : entA a i j ≠ -1000000000000000 := by simpa using t
    have hv := hv.resolve_left fun h => t h.1
    have hW := hsh.hW
    rw [w64_eq (r.Den * entA a i j) (by omega), w64_eq _ (by omega), hv.2.1]
theorem criticalOf_ok {a : List (List Int)} (hm : Mat a a.length) {l : List Nat} {W : Int} {r : TRatio} {S : List (List Int)} (h : CritP a l W r S) : M.Conv (impl_criticalMatrix a r) (matF a.length a.length (critF (matF a.length a.length (shF a r.Den r.Num)) S a)) := by
  have hrows := hm.rows
  have hs := hm.shp
  have hbs : Shp (matF a.length a.length (shF a r.Den r.Num)) a.length := shp_of (by omega) (by omega)
  obtain ⟨S', s1, s2⟩ := starOf_ok hbs (matF_len _ _ _) h.sh.bd (by omega) (by omega) h.np
  have := s2.unique h.st
  subst this
  unfold impl_criticalMatrix
  refine M.Conv_bind (shiftedI_ok hs rfl h.sh) (M.Conv_bind s1 (M.Conv_bind ?_ (M.Conv_ret _)))
  refine matrixBy_ok (fun i j => impl_criticalMatrix_1 i j (matF a.length a.length (shF a r.Den r.Num)) S' a) _ (by omega) (by omega) fun i j hi hj => ?_
  obtain ⟨e1, e2⟩ := h.ent hm hi hj
  have hci := critB_iff e1 e2
  have rdA : M.Conv (M.idx a (i : Int)) (rowN a i) ∧ M.Conv (M.idx (rowN a i) (j : Int)) (entA a i j) := by
    have hrl := hs.row _ (List.mem_of_getElem? (rowN_get (a := a) (i := i) (by omega)))
    have g2 := nd_read (l := rowN a i) (i := j) (by omega)
    rw [nd_row (by omega)] at g2
    exact ⟨get_row (rowN_get (by omega)), g2⟩
  have rdS : M.Conv (M.idx S' (j : Int)) (rowN S' j) ∧ M.Conv (M.idx (rowN S' j) (i : Int)) (entA S' j i) := by
    have hjS : j < S'.length := by rw [s2.len]; exact hj
    have hrl := s2.shp.row _ (List.mem_of_getElem? (rowN_get hjS))
    have g2 := nd_read (l := rowN S' j) (i := i) (by omega)
    rw [nd_row hjS] at g2
    exact ⟨get_row (rowN_get hjS), g2⟩
  generalize hb : matF a.length a.length (shF a r.Den r.Num) = b at *
  have hbl : b.length = a.length := by rw [← hb]; exact matF_len _ _ _
  have rdB : M.Conv (M.idx b (i : Int)) (rowN b i) ∧ M.Conv (M.idx (rowN b i) (j : Int)) (entA b i j) := by
    have hrl := hbs.row _ (List.mem_of_getElem? (rowN_get (a := b) (i := i) (by omega)))
    have g2 := nd_read (l := rowN b i) (i := j) (by omega)
    rw [nd_row (by omega)] at g2
    exact ⟨get_row (rowN_get (by omega)), g2⟩
  refine M.Conv_bind rdB.1 (M.Conv_bind rdB.2 (M.Conv_bind (Conv_or (v := entA S' j i == (-1000000000000000)) fun _ => M.Conv_bind rdS.1 (M.Conv_bind rdS.2 (M.Conv_ret _))) (M.Conv_bind (Conv_or (v := w64 (entA b i j + entA S' j i) != 0) fun _ => M.Conv_bind rdB.1 (M.Conv_bind rdB.2 (M.Conv_bind rdS.1 (M.Conv_bind rdS.2 (M.Conv_ret _))))) ?_)))
  refine M.Conv_ite (fun t => (M.Conv_ret _).of ?_) (fun t => M.Conv_bind rdA.1 (M.Conv_bind rdA.2 ((M.Conv_ret _).of ?_)))
  · have : critB b S' j i = false := by
      cases hc : critB b S' j i with
      | false => rfl
      | true =>
        obtain ⟨q1, q2, q3⟩ := hci.1 hc
        rw [q3] at t
        simp [q1, q2, w64_eq] at t
    unfold critF; rw [this]; rfl
  · simp only [Bool.or_eq_false_iff, beq_eq_false_iff_ne, ne_eq, bne_eq_false_iff_eq] at t
    have : critB b S' j i = true := hci.2 ⟨t.1.1, t.1.2, by have := t.2; rw [w64_eq _ (by omega)] at this; exact this⟩
    unfold critF; rw [this]; rfl
/-- the arcs that c tells of, in order -/
def arcsR (c : Nat → Nat → Bool) (j i : Nat) : List (Nat × Nat) := ((List.range i).filter (c j)).map fun i => (j, i)
def arcsV (c : Nat → Nat → Bool) (n : Nat) : Nat → List (Nat × Nat)
  | 0 => []
  | j + 1 => arcsV c n j ++ arcsR c j n
def encA (p : Nat × Nat) : List Int := [(p.1 : Int), (p.2 : Int)]
theorem arcsR_succ (c : Nat → Nat → Bool) (j i : Nat) : arcsR c j (i + 1) = arcsR c j i ++ (bif c j i then [(j, i)] else []) := by
  unfold arcsR
  rw [List.range_succ, List.filter_append, List.map_append]
  cases h : c j i <;> simp [h]
theorem arcsR_len (c : Nat → Nat → Bool) (j i : Nat) : (arcsR c j i).length ≤ i := by
  unfold arcsR
  have := List.length_filter_le (c j) (List.range i)
  rw [List.length_range] at this
  rw [List.length_map]; exact this
theorem arcsV_len (c : Nat → Nat → Bool) (n : Nat) : ∀ j, (arcsV c n j).length ≤ j * n
  | 0 => by simp [arcsV]
  | j + 1 => by
    have := arcsV_len c n j
    have := arcsR_len c j n
    rw [arcsV, List.length_append, Nat.add_mul, Nat.one_mul]; omega
theorem arcsV_mem (c : Nat → Nat → Bool) (n : Nat) : ∀ k p, p ∈ arcsV c n k ↔ p.1 < k ∧ p.2 < n ∧ c p.1 p.2 = true
  | 0, p => by simp [arcsV]
  | k + 1, p => by
    rw [arcsV, List.mem_append, arcsV_mem c n k p]
    unfold arcsR
    simp only [List.mem_map, List.mem_filter, List.mem_range]
    constructor
    · rintro (⟨h1, h2⟩ | ⟨i, ⟨h1, h2⟩, rfl⟩)
      · exact ⟨by omega, h2⟩
      · exact ⟨by simp only; omega, h1, h2⟩
    · rintro ⟨h1, h2, h3⟩
      by_cases e : p.1 = k
      · exact .inr ⟨p.2, ⟨h2, by rw [← e]; exact h3⟩, by rw [← e]⟩
      · exact .inl ⟨by omega, h2, h3⟩
def rowV (c : Nat → Nat → Bool) (n j : Nat) : Nat → List (Nat × Nat)
  | 0 => arcsV c n j
  | i + 1 => rowV c n j i ++ (bif c j i then [(j, i)] else [])
theorem rowV_eq (c : Nat → Nat → Bool) (n j : Nat) : ∀ i, rowV c n j i = arcsV c n j ++ arcsR c j i
  | 0 => by simp [rowV, arcsR]
  | i + 1 => by rw [rowV, rowV_eq c n j i, arcsR_succ, List.append_assoc]
theorem arcs_loop {b S : List (List Int)} {n : Nat} (hb : Shp b n) (bl : b.length = n) (hS : Shp S n) (Sl : S.length = n) :
    M.Conv (M.forI 0 (n : Int) (fun s => s) (fun i1 => (fun (s1 : (List (List Int))) => M.bind (M.forI 0 (n : Int) (fun s => s) (fun i2 => (fun (s2 : (List (List Int))) => M.bind (M.idx b i2) (fun x7 => M.bind (M.idx x7 i1) (fun x8 => M.bind (M.idx S i1) (fun x9 => M.bind (M.idx x9 i2) (fun x10 => M.bind (spec_l01Times x8 x10) (fun x11 => M.bind (M.ite (x11 == 0) (M.bind (M.app s2 [([i1, i2] : List Int)]) (fun l1 => M.ret l1)) (M.ret s2)) (fun (s3 : (List (List Int))) => M.ret (.inl s3))))))))) s1) (fun x6 => M.ret (.inl x6)))) ([] : List (List Int))) ((arcsV (critB b S) n n).map encA) := by
  have hn := hb.cols
  refine Conv_forV (fun j => (arcsV (critB b S) n j).map encA) (by omega) fun j hj => ?_
  refine M.Conv_bind (x := (rowV (critB b S) n j n).map encA) (Conv_forV (fun i => (rowV (critB b S) n j i).map encA) (by omega) fun i hi => ?_) ((M.Conv_ret _).of (by rw [rowV_eq]; rfl))
  have rdS : M.Conv (M.idx S (j : Int)) (rowN S j) ∧ M.Conv (M.idx (rowN S j) (i : Int)) (entA S j i) := by
    have hjS : j < S.length := by rw [Sl]; exact hj
    have hrl := hS.row _ (List.mem_of_getElem? (rowN_get hjS))
    have g2 := nd_read (l := rowN S j) (i := i) (by omega)
    rw [nd_row hjS] at g2
    exact ⟨get_row (rowN_get hjS), g2⟩
  have rdB : M.Conv (M.idx b (i : Int)) (rowN b i) ∧ M.Conv (M.idx (rowN b i) (j : Int)) (entA b i j) := by
    have hib : i < b.length := by rw [bl]; exact hi
    have hrl := hb.row _ (List.mem_of_getElem? (rowN_get hib))
    have g2 := nd_read (l := rowN b i) (i := j) (by omega)
    rw [nd_row hib] at g2
    exact ⟨get_row (rowN_get hib), g2⟩
  have hl1 := arcsV_len (critB b S) n j
  have hl2 := arcsR_len (critB b S) j i
  have hjn : j * n ≤ 100 := Nat.mul_le_mul (show j ≤ 10 by omega) (show n ≤ 10 by omega)
  have hl3 : ((rowV (critB b S) n j i).map encA).length ≤ 200 := by rw [List.length_map, rowV_eq, List.length_append]; omega
  refine M.Conv_bind rdB.1 (M.Conv_bind rdB.2 (M.Conv_bind rdS.1 (M.Conv_bind rdS.2 (M.Conv_bind (spec_l01Times_ok _ _) (M.Conv_bind (x := (rowV (critB b S) n j (i + 1)).map encA) ?_ (M.Conv_ret _))))))
  rw [rowV]
  refine M.Conv_ite (fun t => M.Conv_bind (M.Conv_app (by rw [List.length_cons, List.length_nil]; omega)) ((M.Conv_ret _).of ?_)) (fun t => (M.Conv_ret _).of ?_)
  · rw [show critB b S j i = true from t]; simp [encA]
  · rw [show critB b S j i = false from t]; simp
theorem arcs_tc {a : List (List Int)} (hm : Mat a a.length) (hex : ∃ l w, Cl a a.length l w) : ∃ l W r S, CritP a l W r S ∧ M.Conv (spec_l06Arcs a) ((arcsV (critB (matF a.length a.length (shF a r.Den r.Num)) S) a.length a.length).map encA) := by
  have hrows := hm.rows
  have hs := hm.shp
  have hA := mat_ent hm
  obtain ⟨q, q1, q2⟩ := best_tc hm
  obtain ⟨l0, w0, h0⟩ := hex
  obtain ⟨hq, l, W, eq1, hmc⟩ := q2.resolve_left fun h => h.2 l0 w0 h0
  obtain ⟨r, S, h⟩ := crit_get hm hmc
  have hlen := hmc.wc.len
  have hb := hmc.wc.cl.bd hA
  refine ⟨l, W, r, S, h, ?_⟩
  have hmean : M.Conv (spec_l04Mean a q.1) (r, true) := by
    obtain ⟨r', r1, _, hr'⟩ := ratio_ok (x := W) (d := (l.length : Int)) (by omega) (by omega)
    have e := hmc.same hmc hr' h.rp
    rw [eq1, ← e]
    unfold spec_l04Mean
    exact M.Conv_bind (cycle_conv hs rfl hA hmc.wc) (M.Conv_ite (fun t => by cases t) (fun _ => M.Conv_bind (x := r') (by rw [List.length_map]; exact r1) (M.Conv_ret _)))
  have hsc := shift_conv hs rfl h.sh
  have hstar : ∃ bb, M.Conv (spec_l03Star (matF a.length a.length (shF a r.Den r.Num))) (S, bb) := by
    have hbs : Shp (matF a.length a.length (shF a r.Den r.Num)) a.length := shp_of (by omega) (by omega)
    obtain ⟨S', bb, s1, s2⟩ := star_pow hbs (matF_len _ _ _) h.sh.bd (by omega) (by omega)
    have := (s2.star h.np).unique h.st
    rw [← this]
    exact ⟨bb, s1⟩
  obtain ⟨bb, hstar⟩ := hstar
  have hloop := arcs_loop (b := matF a.length a.length (shF a r.Den r.Num)) (S := S) (n := a.length) (shp_of (by omega) (by omega)) (matF_len _ _ _) h.st.shp h.st.len
  unfold spec_l06Arcs
  exact M.Conv_bind q1 (M.Conv_bind hmean (M.Conv_bind hsc (M.Conv_bind hstar (M.Conv_bind hloop (M.Conv_ret _)))))

theorem l06_loop {a : List (List Int)} {n : Nat} (hs : Shp a n) (al : a.length = n) {L : List (Nat × Nat)} (hL : ∀ p ∈ L, p.1 < n ∧ p.2 < n) (hll : L.length ≤ 1000) :
    M.Conv (M.forI 0 ((L.map encA).length : Int) (fun s => s) (fun i1 => (fun (s1 : (List (List Int))) => M.bind (M.idx (L.map encA) i1) (fun x4 => M.bind (M.idx x4 1) (fun x5 => M.bind (M.idx (L.map encA) i1) (fun x6 => M.bind (M.idx x6 0) (fun x7 => M.bind (M.idx s1 x5) (fun x8 => M.bind (M.idx a x5) (fun x9 => M.bind (M.idx x9 x7) (fun x10 => M.bind (M.idx x8 x7) (fun _ => M.bind (M.upd x8 x7 x10) (fun l1 => M.ret (.inl (s1.set x5.toNat l1))))))))))))) (matF n n fun _ _ => -1000000000000000)) (matF n n fun i j => if (j, i) ∈ L then entA a i j else -1000000000000000) := by
  have hn := hs.cols
  have e0 : (matF n n fun _ _ => (-1000000000000000 : Int)) = matF n n fun i j => if (j, i) ∈ L.take 0 then entA a i j else -1000000000000000 := matF_congr fun i j _ _ => by simp
  have e1 : (matF n n fun i j => if (j, i) ∈ L then entA a i j else -1000000000000000) = matF n n fun i j => if (j, i) ∈ L.take L.length then entA a i j else -1000000000000000 := by rw [List.take_length]
  rw [e0, e1, List.length_map]
  refine Conv_forV (fun k => matF n n fun i j => if (j, i) ∈ L.take k then entA a i j else -1000000000000000) (by omega) fun k hk => ?_
  obtain ⟨h1, h2⟩ := hL _ (List.getElem_mem hk)
  have ht : L.take (k + 1) = L.take k ++ [L[k]] := by rw [List.take_add_one]; simp [hk]
  have hp : M.Conv (M.idx (L.map encA) (k : Int)) (encA L[k]) := M.Conv_idx (by simp [hk])
  generalize L[k] = p at *
  have hrl := hs.row _ (List.mem_of_getElem? (rowN_get (a := a) (i := p.2) (by omega)))
  have g1 : M.Conv (M.idx a ((p.2 : Nat) : Int)) (rowN a p.2) := get_row (rowN_get (by omega))
  have g2 := nd_read (l := rowN a p.2) (i := p.1) (by omega)
  rw [nd_row (by omega)] at g2
  refine M.Conv_bind hp (M.Conv_bind (x := (p.2 : Int)) (M.Conv_idx (i := 1) rfl) (M.Conv_bind hp (M.Conv_bind (x := (p.1 : Int)) (M.Conv_idx (i := 0) rfl) (M.Conv_bind (idx_tab h2) (M.Conv_bind g1 (M.Conv_bind g2 (M.Conv_bind (idx_tab h1) (M.Conv_bind (M.Conv_upd (by rw [tab_len]; exact h1)) ((M.Conv_ret _).of (congrArg Sum.inl ?_))))))))))
  have := matF_set (m := n) (n := n) (i := p.2) (j := p.1) (f := fun i j => if (j, i) ∈ L.take k then entA a i j else -1000000000000000) (g := fun i j => if (j, i) ∈ L.take (k + 1) then entA a i j else -1000000000000000) (fun i j _ _ hne => by
    rw [ht]
    have : (j, i) ≠ p := fun e => hne (by rw [← e]; exact ⟨rfl, rfl⟩)
    simp [this])
  simp only [Int.toNat_natCast]
  rw [← this]
  congr 2
  rw [ht, if_pos (by simp)]
end Go.Proofs.YtelopfgolahlpaaGreat
