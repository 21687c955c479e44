/-
  Plain programs: what the Go functions compute, as functions on lists and integers with a bound on the number of rounds ('fuel'); total correctness of such programs.
-/
import Derived.IntWalk
import Derived.Lib.ItoaNum
import Derived.Lib.ParseIntB
import Derived.Lib.Split
namespace Go.Proofs.YtfhphkiggdepaaaDoor
open Go

abbrev w64 (x : Int) : Int := IntKind.i64.wrap x
theorem w64_eq (x : Int) (h : -9223372036854775808 ≤ x ∧ x ≤ 9223372036854775807) : w64 x = x := IntWalk.i64_in x h
theorem w64_bd (x : Int) : -9223372036854775808 ≤ w64 x ∧ w64 x ≤ 9223372036854775807 := by
  show _ ≤ IntKind.i64.wrap x ∧ IntKind.i64.wrap x ≤ _
  rw [IntKind.wrap_i64]; omega

def inI64 (x : Int) : Prop := -9223372036854775808 ≤ x ∧ x ≤ 9223372036854775807
def inU8 (x : Int) : Prop := 0 ≤ x ∧ x ≤ 255
def fitL {α : Type} (good : α → Prop) (l : List α) : Prop := l.length ≤ 9223372036854775807 ∧ ∀ y ∈ l, good y
def mx (a b : Int) : Int := if b > a then b else a
def ishr (k : IntKind) (x y : Int) : Int := x.fdiv (2 ^ (min y.toNat k.bits))
def ibit (op : BinOp) (k : IntKind) (x y : Int) : Int := match op with
  | .and => k.wrap ((BitVec.ofInt k.bits x &&& BitVec.ofInt k.bits y).toNat)
  | .or => k.wrap ((BitVec.ofInt k.bits x ||| BitVec.ofInt k.bits y).toNat)
  | .xor => k.wrap ((BitVec.ofInt k.bits x ^^^ BitVec.ofInt k.bits y).toNat)
  | .andNot => k.wrap ((BitVec.ofInt k.bits x &&& ~~~(BitVec.ofInt k.bits y)).toNat)
  | _ => 0

abbrev M (α : Type) := Nat → Option α
namespace M
variable {α β σ ρ : Type}
def ret (x : α) : M α := fun _ => some x
def fail : M α := fun _ => none
def bind (m : M α) (f : α → M β) : M β := fun n => match m n with
  | some x => f x n
  | none => none
def guard (b : Bool) : M Unit := fun _ => bif b then some () else none
def ite (b : Bool) (x y : M α) : M α := fun n => bif b then x n else y n
def idx (l : List α) (i : Int) : M α := fun _ => bif decide (0 ≤ i) then l[i.toNat]? else none
def upd (l : List α) (i : Int) (x : α) : M (List α) := fun _ => bif decide (0 ≤ i) && decide (i < l.length) then some (l.set i.toNat x) else none
/-- rounds until one leaves; at most n of them -/
def loopN (f : σ → M (σ ⊕ ρ)) (n : Nat) : Nat → σ → Option ρ
  | 0, _ => none
  | m + 1, s => match f s n with
    | some (.inl s') => loopN f n m s'
    | some (.inr r) => some r
    | none => none
def loop (f : σ → M (σ ⊕ ρ)) (s : σ) : M ρ := fun n => loopN f n n s
/-- for i from lo up to, not with, hi: m rounds at most -/
def forN (hi : Int) (fin : σ → ρ) (f : Int → σ → M (σ ⊕ ρ)) (n : Nat) : Nat → Int → σ → Option ρ
  | 0, i, s => bif decide (i < hi) then none else some (fin s)
  | m + 1, i, s => bif decide (i < hi) then (match f i s n with
    | some (.inl s') => forN hi fin f n m (i + 1) s'
    | some (.inr r) => some r
    | none => none) else some (fin s)
def forI (lo hi : Int) (fin : σ → ρ) (f : Int → σ → M (σ ⊕ ρ)) (s : σ) : M ρ := fun n =>
  bif decide (-9223372036854775808 ≤ lo) && decide (hi ≤ 9223372036854775807) then forN hi fin f n (hi - lo).toNat lo s else none

/-- behind a loop that may have returned -/
def cont (x : σ ⊕ ρ) (k : σ → M β) (g : ρ → M β) : M β := match x with
  | .inl s => k s
  | .inr r => g r
theorem cont_inl' {x : σ ⊕ ρ} {s : σ} {k : σ → M β} {g : ρ → M β} {n : Nat} {y : β} (h : cont x k g n = some y) (e : x = .inl s) : k s n = some y := by subst e; exact h
theorem cont_inr' {x : σ ⊕ ρ} {r : ρ} {k : σ → M β} {g : ρ → M β} {n : Nat} {y : β} (h : cont x k g n = some y) (e : .inr r = x) : g r n = some y := by subst e; exact h
/-! ### what it means that a program has come to an end -/
theorem ret_some {x r : α} {n : Nat} (h : ret x n = some r) : x = r := Option.some.inj h
theorem bind_some {m : M α} {f : α → M β} {n : Nat} {r : β} (h : bind m f n = some r) : ∃ x, m n = some x ∧ f x n = some r := by
  unfold bind at h
  split at h
  · rename_i x hx; exact ⟨x, hx, h⟩
  · cases h
theorem guard_some {b : Bool} {n : Nat} {u : Unit} (h : guard b n = some u) : b = true := by
  cases b
  · cases h
  · rfl
theorem ite_some {b : Bool} {x y : M α} {n : Nat} {r : α} (h : ite b x y n = some r) : (b = true → x n = some r) ∧ (b = false → y n = some r) := by
  cases b
  · exact ⟨fun e => (by cases e), fun _ => h⟩
  · exact ⟨fun _ => h, fun e => (by cases e)⟩
theorem idx_some {l : List α} {i : Int} {n : Nat} {x : α} (h : idx l i n = some x) : 0 ≤ i ∧ i < l.length ∧ l[i.toNat]? = some x := by
  unfold idx at h
  by_cases h0 : 0 ≤ i
  · simp only [h0, decide_true, cond_true] at h
    have := (List.getElem?_eq_some_iff.1 h).1
    exact ⟨h0, by omega, h⟩
  · simp [h0] at h
theorem loop_some {f : σ → M (σ ⊕ ρ)} {n m : Nat} {s : σ} {r : ρ} (h : loopN f n m s = some r) :
    ∃ m' y, m = m' + 1 ∧ f s n = some y ∧ (∀ s', y = .inl s' → loopN f n m' s' = some r) ∧ (∀ r', y = .inr r' → r' = r) := by
  cases m with
  | zero => cases h
  | succ m =>
    refine ⟨m, ?_⟩
    unfold loopN at h
    split at h
    · rename_i s' hs; exact ⟨_, rfl, hs, fun s'' e => (by cases e; exact h), fun r' e => (by cases e)⟩
    · rename_i r' hs; exact ⟨_, rfl, hs, fun s'' e => (by cases e), fun r'' e => (by cases e; exact Option.some.inj h)⟩
    · cases h
theorem for_start {lo hi : Int} {fin : σ → ρ} {f : Int → σ → M (σ ⊕ ρ)} {s : σ} {n : Nat} {r : ρ} (h : forI lo hi fin f s n = some r) :
    -9223372036854775808 ≤ lo ∧ hi ≤ 9223372036854775807 ∧ forN hi fin f n (hi - lo).toNat lo s = some r := by
  unfold forI at h
  by_cases h0 : -9223372036854775808 ≤ lo <;> by_cases h1 : hi ≤ 9223372036854775807 <;> simp [h0, h1] at h
  exact ⟨h0, h1, h⟩
theorem for_go {hi : Int} {fin : σ → ρ} {f : Int → σ → M (σ ⊕ ρ)} {n m : Nat} {i : Int} {s : σ} {r : ρ} (h : forN hi fin f n m i s = some r) (hb : decide (i < hi) = true) :
    ∃ m' y, m = m' + 1 ∧ f i s n = some y ∧ (∀ s', y = .inl s' → forN hi fin f n m' (i + 1) s' = some r) ∧ (∀ r', y = .inr r' → r' = r) := by
  cases m with
  | zero => unfold forN at h; rw [hb] at h; cases h
  | succ m =>
    refine ⟨m, ?_⟩
    unfold forN at h
    rw [hb] at h
    simp only [cond_true] at h
    split at h
    · rename_i s' hs; exact ⟨_, rfl, hs, fun s'' e => (by cases e; exact h), fun r' e => (by cases e)⟩
    · rename_i r' hs; exact ⟨_, rfl, hs, fun s'' e => (by cases e), fun r'' e => (by cases e; exact Option.some.inj h)⟩
    · cases h
theorem for_end {hi : Int} {fin : σ → ρ} {f : Int → σ → M (σ ⊕ ρ)} {n m : Nat} {i : Int} {s : σ} {r : ρ} (h : forN hi fin f n m i s = some r) (hb : decide (i < hi) = false) : fin s = r := by
  cases m <;> (unfold forN at h; rw [hb] at h; exact Option.some.inj h)

/-! ### total correctness -/
/-- with fuel enough the program comes to an end, with the answer r -/
def Conv (m : M α) (r : α) : Prop := ∃ N, ∀ n, N ≤ n → m n = some r
/-- .. with an answer that is as Post says -/
def TC (m : M α) (Post : α → Prop) : Prop := ∃ r, Conv m r ∧ Post r
theorem TC.get {m : M α} {Post : α → Prop} (h : TC m Post) : ∃ n r, m n = some r ∧ Post r := let ⟨r, ⟨N, h⟩, hp⟩ := h; ⟨N, r, h N (Nat.le_refl _), hp⟩
theorem TC.mono {m : M α} {Post Post' : α → Prop} (h : TC m Post) (hp : ∀ r, Post r → Post' r) : TC m Post' := let ⟨r, h, b⟩ := h; ⟨r, h, hp r b⟩
theorem Conv.unique {m : M α} {r r' : α} (h : Conv m r) (h' : Conv m r') : r = r' := by
  obtain ⟨N, h⟩ := h
  obtain ⟨N', h'⟩ := h'
  have := h (max N N') (by omega)
  rw [h' (max N N') (by omega)] at this
  exact (Option.some.inj this).symm
theorem TC.conv {m : M α} {r : α} (h : TC m fun x => x = r) : Conv m r := by obtain ⟨_, h, rfl⟩ := h; exact h
theorem Conv_ret (x : α) : Conv (ret x) x := ⟨0, fun _ _ => rfl⟩
theorem Conv_bind {m : M α} {f : α → M β} {x : α} {r : β} (h : Conv m x) (g : Conv (f x) r) : Conv (bind m f) r := by
  obtain ⟨N, h⟩ := h
  obtain ⟨N', g⟩ := g
  exact ⟨max N N', fun n hn => by simp [bind, h n (by omega), g n (by omega)]⟩
theorem TC_ret {x : α} {Post : α → Prop} (h : Post x) : TC (ret x) Post := ⟨x, Conv_ret x, h⟩
theorem TC_bind {m : M α} {f : α → M β} {Mid : α → Prop} {Post : β → Prop} (h : TC m Mid) (g : ∀ x, Mid x → TC (f x) Post) : TC (bind m f) Post := by
  obtain ⟨x, h, hm⟩ := h
  obtain ⟨r, g, hp⟩ := g x hm
  exact ⟨r, Conv_bind h g, hp⟩
theorem TC_bindC {m : M α} {f : α → M β} {x : α} {Post : β → Prop} (h : Conv m x) (g : TC (f x) Post) : TC (bind m f) Post := by
  obtain ⟨r, g, hp⟩ := g
  exact ⟨r, Conv_bind h g, hp⟩
theorem TC_guard {b : Bool} {Post : Unit → Prop} (h : b = true) (g : Post ()) : TC (guard b) Post := ⟨(), ⟨0, fun _ _ => by simp [guard, h]⟩, g⟩
theorem TC_ite {b : Bool} {x y : M α} {Post : α → Prop} (h1 : b = true → TC x Post) (h2 : b = false → TC y Post) : TC (ite b x y) Post := by
  cases b
  · exact h2 rfl
  · exact h1 rfl
theorem Conv_idx {l : List α} {i : Nat} {x : α} (h : l[i]? = some x) : Conv (idx l i) x := ⟨0, fun _ _ => by simp [idx, h]⟩
theorem TC_idx {l : List α} {i : Int} {Post : α → Prop} (h0 : 0 ≤ i) (h1 : i < l.length) (hp : ∀ x, l[i.toNat]? = some x → Post x) : TC (idx l i) Post := by
  have hlt : i.toNat < l.length := by omega
  refine ⟨l[i.toNat], ⟨0, fun _ _ => ?_⟩, hp _ (List.getElem?_eq_getElem hlt)⟩
  simp [idx, h0, hlt]
/-- a loop: a relation that each round keeps, and a number that it lowers -/
theorem TC_loop {f : σ → M (σ ⊕ ρ)} {Post : ρ → Prop} (I : σ → Prop) (μ : σ → Nat) (s : σ) (h0 : I s)
    (round : ∀ s, I s → TC (f s) fun y => (∃ s', y = .inl s' ∧ I s' ∧ μ s' < μ s) ∨ (∃ r, y = .inr r ∧ Post r)) : TC (loop f s) Post := by
  suffices H : ∀ k s, μ s = k → I s → ∃ r, (∃ N m0, ∀ n, N ≤ n → ∀ m, m0 ≤ m → loopN f n m s = some r) ∧ Post r by
    obtain ⟨r, ⟨N, m0, hN⟩, hp⟩ := H _ s rfl h0
    exact ⟨r, ⟨max N m0, fun n hn => hN n (by omega) n (by omega)⟩, hp⟩
  intro k
  induction k using Nat.strongRecOn with
  | _ k ih =>
    intro s hk hI
    obtain ⟨y, ⟨N, hy⟩, hc⟩ := round s hI
    rcases hc with ⟨s', rfl, hI', hlt⟩ | ⟨r, rfl, hp⟩
    · obtain ⟨r, ⟨N', m0, hr⟩, hp⟩ := ih (μ s') (hk ▸ hlt) s' rfl hI'
      refine ⟨r, ⟨max N N', m0 + 1, fun n hn m hm => ?_⟩, hp⟩
      obtain ⟨m, rfl⟩ : ∃ q, m = q + 1 := ⟨m - 1, by omega⟩
      simp only [loopN, hy n (by omega)]
      exact hr n (by omega) m (by omega)
    · refine ⟨r, ⟨N, 1, fun n hn m hm => ?_⟩, hp⟩
      obtain ⟨m, rfl⟩ : ∃ q, m = q + 1 := ⟨m - 1, by omega⟩
      simp only [loopN, hy n hn]
/-- a counting loop -/
theorem TC_for {lo hi : Int} {fin : σ → ρ} {f : Int → σ → M (σ ⊕ ρ)} {Post : ρ → Prop} (I : Int → σ → Prop) (s : σ) (hlo : -9223372036854775808 ≤ lo) (hhi : hi ≤ 9223372036854775807) (h0 : I lo s)
    (round : ∀ i s, lo ≤ i → i < hi → I i s → TC (f i s) fun y => (∃ s', y = .inl s' ∧ I (i + 1) s') ∨ (∃ r, y = .inr r ∧ Post r))
    (done : ∀ i s, (i = hi ∨ (i = lo ∧ hi ≤ lo)) → I i s → Post (fin s)) : TC (forI lo hi fin f s) Post := by
  suffices H : ∀ k i s, (hi - i).toNat = k → lo ≤ i → (i ≤ hi ∨ i = lo) → I i s → ∃ r, (∃ N, ∀ n, N ≤ n → forN hi fin f n k i s = some r) ∧ Post r by
    obtain ⟨r, ⟨N, hN⟩, hp⟩ := H _ lo s rfl (Int.le_refl _) (.inr rfl) h0
    exact ⟨r, ⟨N, fun n hn => by simp [forI, hlo, hhi, hN n hn]⟩, hp⟩
  intro k
  induction k with
  | zero =>
    intro i s hk h1 h2 hI
    have hge : ¬ i < hi := by omega
    exact ⟨fin s, ⟨0, fun n _ => by simp [forN, hge]⟩, done i s (by omega) hI⟩
  | succ k ih =>
    intro i s hk h1 h2 hI
    have hlt : i < hi := by omega
    obtain ⟨y, ⟨N, hy⟩, hc⟩ := round i s h1 hlt hI
    rcases hc with ⟨s', rfl, hI'⟩ | ⟨r, rfl, hp⟩
    · obtain ⟨r, ⟨N', hr⟩, hp⟩ := ih (i + 1) s' (by omega) (by omega) (by omega) hI'
      exact ⟨r, ⟨max N N', fun n hn => by simp [forN, hlt, hy n (by omega), hr n (by omega)]⟩, hp⟩
    · exact ⟨r, ⟨N, fun n hn => by simp [forN, hlt, hy n hn]⟩, hp⟩
end M
namespace M
def make {α : Type} (n : Int) (x : α) : M (List α) := fun _ => bif decide (0 ≤ n) && decide (n ≤ 1099511627776) then some (List.replicate n.toNat x) else none
def app {α : Type} (l ys : List α) : M (List α) := fun _ => bif decide (l.length + ys.length ≤ 1099511627776) then some (l ++ ys) else none
theorem app_some {α : Type} {l ys r : List α} {k : Nat} (h : app l ys k = some r) : l.length + ys.length ≤ 1099511627776 ∧ r = l ++ ys := by
  unfold app at h
  by_cases h0 : l.length + ys.length ≤ 1099511627776 <;> simp [h0] at h
  exact ⟨h0, h.symm⟩
theorem Conv_app {α : Type} {l ys : List α} (h : l.length + ys.length ≤ 1099511627776) : Conv (app l ys) (l ++ ys) := ⟨0, fun _ _ => by simp [app, h]⟩
/-- l[lo:hi] within the length -/
def sub {α : Type} (l : List α) (lo hi : Int) : M (List α) := fun _ => bif decide (0 ≤ lo) && decide (lo ≤ hi) && decide (hi ≤ l.length) then some ((l.drop lo.toNat).take (hi.toNat - lo.toNat)) else none
theorem sub_some {α : Type} {l r : List α} {lo hi : Int} {k : Nat} (h : sub l lo hi k = some r) : 0 ≤ lo ∧ lo ≤ hi ∧ hi ≤ l.length ∧ r = (l.drop lo.toNat).take (hi.toNat - lo.toNat) := by
  unfold sub at h
  by_cases h0 : 0 ≤ lo <;> by_cases h1 : lo ≤ hi <;> by_cases h2 : hi ≤ l.length <;> simp [h0, h1, h2] at h
  exact ⟨h0, h1, h2, h.symm⟩
theorem Conv_sub {α : Type} {l : List α} {lo hi : Int} (h0 : 0 ≤ lo) (h1 : lo ≤ hi) (h2 : hi ≤ l.length) : Conv (sub l lo hi) ((l.drop lo.toNat).take (hi.toNat - lo.toNat)) := ⟨0, fun _ _ => by simp [sub, h0, h1, h2]⟩
end M
/-! strings -/
def toS (l : List Int) : ByteArray := l.foldl (fun r n => r.push (UInt8.ofNat n.toNat)) ByteArray.empty
def parseR (s : ByteArray) : Int × Bool := match Lib.parseIntB 64 s.data.toList with
  | .ok v => (v, false)
  | .range => (Lib.intSat 64 s.data.toList, true)
  | _ => (0, true)
namespace M
def cat (a b : ByteArray) : M ByteArray := fun _ => bif decide (((a.size + b.size : Nat) : Int) ≤ 9223372036854775807) then some (a ++ b) else none
theorem cat_some {a b x : ByteArray} {k : Nat} (h : cat a b k = some x) : ((a.size + b.size : Nat) : Int) ≤ 9223372036854775807 ∧ x = a ++ b := by
  unfold cat at h
  by_cases h0 : ((a.size + b.size : Nat) : Int) ≤ 9223372036854775807
  · rw [decide_eq_true h0] at h
    exact ⟨h0, (Option.some.inj h).symm⟩
  · rw [decide_eq_false h0] at h
    cases h
/-- byte i of a string; a part of a string -/
def sidx (s : ByteArray) (i : Int) : M Int := fun _ => bif decide (0 ≤ i) then (s[i.toNat]?).map (fun b => ((b.toNat : Nat) : Int)) else none
theorem sidx_some {s : ByteArray} {i x : Int} {k : Nat} (h : sidx s i k = some x) : 0 ≤ i ∧ ∃ b, s[i.toNat]? = some b ∧ x = ((b.toNat : Nat) : Int) := by
  unfold sidx at h
  by_cases h0 : 0 ≤ i
  · rw [decide_eq_true h0, cond_true] at h
    obtain ⟨b, hb, rfl⟩ := Option.map_eq_some_iff.1 h
    exact ⟨h0, b, hb, rfl⟩
  · rw [decide_eq_false h0, cond_false] at h
    cases h
def ssub (s : ByteArray) (lo hi : Int) : M ByteArray := fun _ => bif decide (0 ≤ lo) && decide (lo ≤ hi) && decide (hi ≤ ((s.size : Nat) : Int)) then some (s.extract lo.toNat hi.toNat) else none
theorem ssub_some {s x : ByteArray} {lo hi : Int} {k : Nat} (h : ssub s lo hi k = some x) : 0 ≤ lo ∧ lo ≤ hi ∧ hi ≤ ((s.size : Nat) : Int) ∧ x = s.extract lo.toNat hi.toNat := by
  unfold ssub at h
  by_cases h0 : 0 ≤ lo <;> by_cases h1 : lo ≤ hi <;> by_cases h2 : hi ≤ ((s.size : Nat) : Int) <;> simp [h0, h1, h2] at h
  exact ⟨h0, h1, h2, h.symm⟩
theorem Conv_cat {a b : ByteArray} (h : ((a.size + b.size : Nat) : Int) ≤ 9223372036854775807) : Conv (cat a b) (a ++ b) := ⟨0, fun _ _ => by unfold cat; rw [decide_eq_true h]; rfl⟩
end M
end Go.Proofs.YtfhphkiggdepaaaDoor
