/-
  What a call has made, and what may change: a list of things, each with its own blocks, all apart from each other and from all that was there when the call began.
-/
import Derived.Test.YtfhphkiggdepaaaDoorOwn
import Derived.Test.YtfhphkiggdepaaaDoorDraw
namespace Go.Proofs.YtfhphkiggdepaaaDoor
open Go
variable {α β : Type}


/-! ### things -/
structure Item where
  base : Nat
  P : Heap → List Nat → Prop
  loc : ∀ {h h' : Heap} {F : List Nat}, (∀ b, b < base → h'[b]? = h[b]?) → (∀ b ∈ F, h'[b]? = h[b]?) → P h F → P h' F
/-- the slice value is '.slice a n cap' -/
def own (C : Cd α) (a : Option Addr) (n cap : Nat) (l : List α) : Item := ⟨0, fun h F => Own C h a cap l F ∧ l.length = n, fun _ e ⟨o, hn⟩ => ⟨o.ext e, hn⟩⟩
/-- a variable -/
def box (g ty : Nat) (vs : List Value) : Item := ⟨0, fun h F => F = [g] ∧ h[g]? = some (.cells vs.toArray ty (0, 0)), fun _ e ⟨h1, h2⟩ => ⟨h1, (e g (by rw [h1]; exact List.mem_cons_self)).trans h2⟩⟩
def All (h : Heap) : List Item → List (List Nat) → Prop
  | [], [] => True
  | i :: is, F :: Fs => i.P h F ∧ All h is Fs
  | _, _ => False
/-- h0: the heap when the call began; h: the heap now -/
structure Hold (h0 h : Heap) (is : List Item) : Prop where
  ext : Ext h0 h
  base : is.all (fun i => Nat.ble i.base h0.size) = true
  fs : ∃ Fs, All h is Fs ∧ Sep h0.size h Fs.flatten

section
variable {h0 h h' : Heap} {i j : Item} {R is ns : List Item}
theorem All.loc : ∀ {is : List Item} {Fs : List (List Nat)}, All h is Fs → (∀ i ∈ is, ∀ b, b < i.base → h'[b]? = h[b]?) → (∀ b ∈ Fs.flatten, h'[b]? = h[b]?) → All h' is Fs
  | [], [], a, _, _ => a
  | i :: is, F :: Fs, ⟨a1, a2⟩, e1, e2 => ⟨i.loc (e1 i List.mem_cons_self) (fun b hb => e2 b (List.mem_flatten.2 ⟨F, List.mem_cons_self, hb⟩)) a1,
      a2.loc (fun j hj => e1 j (List.mem_cons_of_mem _ hj)) (fun b hb => e2 b (by rw [List.flatten_cons]; exact List.mem_append.2 (.inr hb)))⟩
  | [], _ :: _, a, _, _ => a.elim
  | _ :: _, [], a, _, _ => a.elim
theorem Hold.init (h : Heap) : Hold h h [] := ⟨Fr.refl _ _, rfl, [], trivial, Sep.nil _ _⟩
theorem Hold.lo (H : Hold h0 h is) : h0.size ≤ h.size := H.ext.size
theorem Hold.bases (H : Hold h0 h is) : ∀ i ∈ is, i.base ≤ h0.size := fun i hi => Nat.le_of_ble_eq_true (List.all_eq_true.1 H.base i hi)
theorem Sep.app {lo : Nat} {h : Heap} {F G : List Nat} : Sep lo h (F ++ G) ↔ Sep lo h F ∧ Sep lo h G ∧ Dj F G := by
  constructor
  · intro s
    have h1 := s.nodup
    rw [List.nodup_append] at h1
    exact ⟨⟨h1.1, fun b hb => s.lo b (List.mem_append.2 (.inl hb)), fun b hb => s.hi b (List.mem_append.2 (.inl hb))⟩, ⟨h1.2.1, fun b hb => s.lo b (List.mem_append.2 (.inr hb)), fun b hb => s.hi b (List.mem_append.2 (.inr hb))⟩,
      fun b hb hg => h1.2.2 b hb b hg rfl⟩
  · rintro ⟨s1, s2, d⟩
    refine ⟨List.nodup_append.2 ⟨s1.nodup, s2.nodup, fun b hb c hc e => d b hb (e ▸ hc)⟩, fun b hb => ?_, fun b hb => ?_⟩
    · rcases List.mem_append.1 hb with h | h
      · exact s1.lo b h
      · exact s2.lo b h
    · rcases List.mem_append.1 hb with h | h
      · exact s1.hi b h
      · exact s2.hi b h
/-- the first thing, alone; and how the whole is put together again -/
theorem Hold.open (H : Hold h0 h (i :: R)) : ∃ F, i.P h F ∧ Sep h0.size h F ∧ ∀ (h' : Heap) (i' : Item) F', Fr F h h' → i'.P h' F' → Sep h0.size h' F' → (∀ b ∈ F', b ∈ F ∨ h.size ≤ b) → i'.base ≤ h0.size → Hold h0 h' (i' :: R) := by
  obtain ⟨Fs, a, s⟩ := H.fs
  cases Fs with
  | nil => exact a.elim
  | cons F Fs =>
    obtain ⟨a1, a2⟩ := a
    rw [List.flatten_cons, Sep.app] at s
    obtain ⟨s1, s2, d⟩ := s
    refine ⟨F, a1, s1, fun h' i' F' fr p' s' hF hb => ?_⟩
    have hb0 := H.base
    simp only [List.all_cons, Bool.and_eq_true] at hb0
    refine ⟨H.ext.later fr s1.lo, by simp only [List.all_cons, Bool.and_eq_true]; exact ⟨Nat.ble_eq_true_of_le hb, hb0.2⟩, F' :: Fs, ⟨p', a2.loc (fun j hj b hb => ?_) (fun b hb => ?_)⟩, ?_⟩
    · have hj := H.bases j (List.mem_cons_of_mem _ hj)
      refine fr.block b (Nat.lt_of_lt_of_le hb (Nat.le_trans hj H.lo)) fun hm => ?_
      have := s1.lo b hm
      omega
    · exact fr.block b (s2.hi b hb) fun hm => d b hm hb
    · rw [List.flatten_cons, Sep.app]
      refine ⟨s', s2.mono (Nat.le_refl _) fr.size, fun b hb hg => ?_⟩
      rcases hF b hb with h | h
      · exact d b h hg
      · have := s2.hi b hg; omega
theorem Hold.open2 (H : Hold h0 h (i :: j :: R)) : ∃ F G, i.P h F ∧ j.P h G ∧ Sep h0.size h F ∧ Sep h0.size h G ∧ Dj F G ∧
    ∀ (h' : Heap) (i' : Item) F', Fr (F ++ G) h h' → i'.P h' F' → Sep h0.size h' F' → (∀ b ∈ F', b ∈ F ∨ b ∈ G ∨ h.size ≤ b) → i'.base ≤ h0.size → Hold h0 h' (i' :: R) := by
  obtain ⟨Fs, a, s⟩ := H.fs
  match Fs, a with
  | F :: G :: Fs, ⟨a1, a2, a3⟩ =>
    rw [List.flatten_cons, List.flatten_cons, Sep.app, Sep.app] at s
    obtain ⟨s1, ⟨s2, s3, d2⟩, d⟩ := s
    refine ⟨F, G, a1, a2, s1, s2, fun b hb hg => d b hb (List.mem_append.2 (.inl hg)), fun h' i' F' fr p' s' hF hb => ?_⟩
    have hb0 := H.base
    simp only [List.all_cons, Bool.and_eq_true] at hb0
    have hlo : ∀ b ∈ F ++ G, h0.size ≤ b := fun b hb => (List.mem_append.1 hb).elim (s1.lo b) (s2.lo b)
    refine ⟨H.ext.later fr hlo, by simp only [List.all_cons, Bool.and_eq_true]; exact ⟨Nat.ble_eq_true_of_le hb, hb0.2.2⟩, F' :: Fs, ⟨p', a3.loc (fun j hj b hb => ?_) (fun b hb => ?_)⟩, ?_⟩
    · have hj := H.bases j (List.mem_cons_of_mem _ (List.mem_cons_of_mem _ hj))
      refine fr.block b (Nat.lt_of_lt_of_le hb (Nat.le_trans hj H.lo)) fun hm => ?_
      have := hlo b hm
      omega
    · exact fr.block b (s3.hi b hb) fun hm => (List.mem_append.1 hm).elim (fun hm => d b hm (List.mem_append.2 (.inr hb))) (fun hm => d2 b hm hb)
    · rw [List.flatten_cons, Sep.app]
      refine ⟨s', s3.mono (Nat.le_refl _) fr.size, fun b hb hg => ?_⟩
      rcases hF b hb with h | h | h
      · exact d b h (List.mem_append.2 (.inr hg))
      · exact d2 b h hg
      · have := s3.hi b hg; omega
theorem Hold.add (H : Hold h0 h R) (e : Ext h h') {F : List Nat} (p : i.P h' F) (s : Sep h.size h' F) (hb : i.base ≤ h0.size) : Hold h0 h' (i :: R) := by
  obtain ⟨Fs, a, t⟩ := H.fs
  refine ⟨H.ext.later e (by simp), by simp only [List.all_cons, Bool.and_eq_true]; exact ⟨Nat.ble_eq_true_of_le hb, H.base⟩, F :: Fs, ⟨p, a.loc (fun j hj b hb => e.block b (Nat.lt_of_lt_of_le hb (Nat.le_trans (H.bases j hj) H.lo)) (by simp)) (fun b hb => e.block b (t.hi b hb) (by simp))⟩, ?_⟩
  rw [List.flatten_cons, Sep.app]
  refine ⟨s.mono H.lo (Nat.le_refl _), t.mono (Nat.le_refl _) e.size, fun b hb hg => ?_⟩
  have := s.lo b hb; have := t.hi b hg; omega
/-- something without blocks -/
theorem Hold.bare (H : Hold h0 h R) (p : i.P h []) (hb : i.base ≤ h0.size) : Hold h0 h (i :: R) := H.add (Fr.refl _ _) p (Sep.nil _ _) hb
theorem Hold.empty (H : Hold h0 h R) (C : Cd α) : Hold h0 h (own C Option.none 0 0 [] :: R) := H.bare (i := own C Option.none 0 0 []) ⟨Own.nil C h, rfl⟩ (Nat.zero_le _)
/-- what a callee has made -/
theorem Hold.call (H : Hold h0 h R) (H' : Hold h h' ns) (hf : ns.all (fun i => Nat.beq i.base 0) = true) : Hold h0 h' (ns ++ R) := by
  obtain ⟨Fs, a, t⟩ := H.fs
  obtain ⟨Gs, c, u⟩ := H'.fs
  have e := H'.ext
  have all_app : ∀ {xs : List Item} {As : List (List Nat)} {ys : List Item} {Bs : List (List Nat)}, All h' xs As → All h' ys Bs → All h' (xs ++ ys) (As ++ Bs) := by
    intro xs
    induction xs with
    | nil => intro As ys Bs a b; cases As with
      | nil => exact b
      | cons _ _ => exact a.elim
    | cons x xs ih => intro As ys Bs a b; cases As with
      | nil => exact a.elim
      | cons A As => exact ⟨a.1, ih a.2 b⟩
  refine ⟨H.ext.later e (by simp), ?_, Gs ++ Fs, all_app c (a.loc (fun j hj b hb => e.block b (Nat.lt_of_lt_of_le hb (Nat.le_trans (H.bases j hj) H.lo)) (by simp)) (fun b hb => e.block b (t.hi b hb) (by simp))), ?_⟩
  · rw [List.all_append, Bool.and_eq_true]
    refine ⟨List.all_eq_true.2 fun i hi => ?_, H.base⟩
    have := Nat.eq_of_beq_eq_true (List.all_eq_true.1 hf i hi)
    exact Nat.ble_eq_true_of_le (by omega)
  · rw [List.flatten_append, Sep.app]
    refine ⟨u.mono H.lo (Nat.le_refl _), t.mono (Nat.le_refl _) e.size, fun b hb hg => ?_⟩
    have := u.lo b hb; have := t.hi b hg; omega

theorem Hold.stable : Stable (fun x => Hold h0 x is) := fun h h' H e => by
  have := H.call (ns := []) (h' := h') ⟨e, rfl, [], trivial, Sep.nil _ _⟩ rfl
  exact this
/-! ### some of the things, in another order -/
theorem All.len : ∀ {is : List Item} {Fs : List (List Nat)}, All h is Fs → is.length = Fs.length
  | [], [], _ => rfl
  | _ :: _, _ :: _, ⟨_, a⟩ => by simp [a.len]
  | [], _ :: _, a => a.elim
  | _ :: _, [], a => a.elim
theorem All.get : ∀ {is : List Item} {Fs : List (List Nat)} (n : Nat) {i : Item}, All h is Fs → is[n]? = some i → ∃ F, Fs[n]? = some F ∧ i.P h F
  | i :: _, F :: _, 0, _, ⟨a, _⟩, e => ⟨F, rfl, by simp at e; subst e; exact a⟩
  | _ :: is, _ :: Fs, n + 1, i, ⟨_, a⟩, e => by
    obtain ⟨F, h1, h2⟩ := All.get n a (by simpa using e)
    exact ⟨F, by simpa using h1, h2⟩
  | [], [], n, _, _, e => by simp at e
  | [], _ :: _, _, _, a, _ => a.elim
  | _ :: _, [], _, _, a, _ => a.elim
def emp : Item := ⟨0, fun _ F => F = [], fun _ _ e => e⟩
theorem nodup_at : ∀ {Fs : List (List Nat)} {m n : Nat} {F G : List Nat}, Fs.flatten.Nodup → Fs[m]? = some F → Fs[n]? = some G → m ≠ n → Dj F G
  | [], m, n, F, G, _, h1, _, _ => by simp at h1
  | A :: Fs, m, n, F, G, hn, h1, h2, hne => by
    rw [List.flatten_cons, List.nodup_append] at hn
    cases m with
    | zero => cases n with
      | zero => exact absurd rfl hne
      | succ n =>
        simp at h1 h2
        subst h1
        exact fun b hb hg => hn.2.2 b hb b (List.mem_flatten.2 ⟨G, List.mem_of_getElem? h2, hg⟩) rfl
    | succ m => cases n with
      | zero =>
        simp at h1 h2
        subst h2
        exact fun b hb hg => hn.2.2 b hg b (List.mem_flatten.2 ⟨F, List.mem_of_getElem? h1, hb⟩) rfl
      | succ n => exact nodup_at hn.2.1 (by simpa using h1) (by simpa using h2) (by omega)
def okP (n : Nat) : List Nat → Bool
  | [] => true
  | m :: ms => Nat.blt m n && ms.all (fun k => !Nat.beq m k) && okP n ms
theorem Hold.pick (ns : List Nat) (H : Hold h0 h is) (hk : okP is.length ns = true) : Hold h0 h (ns.map fun n => (is[n]?).getD emp) := by
  obtain ⟨Fs, a, s⟩ := H.fs
  have hl := a.len
  have mem : ∀ {n : Nat} {F : List Nat}, Fs[n]? = some F → ∀ b ∈ F, b ∈ Fs.flatten := fun hF b hb => List.mem_flatten.2 ⟨_, List.mem_of_getElem? hF, hb⟩
  have key : ∀ ns : List Nat, okP is.length ns = true → ∃ Gs, All h (ns.map fun n => (is[n]?).getD emp) Gs ∧ Sep h0.size h Gs.flatten ∧ ∀ b ∈ Gs.flatten, ∃ n ∈ ns, ∃ F, Fs[n]? = some F ∧ b ∈ F := by
    intro ns
    induction ns with
    | nil => intro _; exact ⟨[], trivial, Sep.nil _ _, by simp⟩
    | cons m ms ih =>
      intro hk
      simp only [okP, Bool.and_eq_true] at hk
      obtain ⟨⟨h1, h2⟩, h3⟩ := hk
      have hm : m < is.length := Nat.le_of_ble_eq_true h1
      obtain ⟨Gs, g1, g2, g3⟩ := ih h3
      obtain ⟨F, f1, f2⟩ := All.get m a (List.getElem?_eq_getElem hm)
      refine ⟨F :: Gs, ⟨by show ((is[m]?).getD emp).P h F; rw [List.getElem?_eq_getElem hm]; exact f2, g1⟩, ?_, ?_⟩
      · rw [List.flatten_cons, Sep.app]
        refine ⟨⟨List.Nodup.sublist (List.sublist_flatten_of_mem (List.mem_of_getElem? f1)) s.nodup, fun b hb => s.lo b (mem f1 b hb), fun b hb => s.hi b (mem f1 b hb)⟩, g2, fun b hb hg => ?_⟩
        obtain ⟨n, hn, G, hG, hbG⟩ := g3 b hg
        have hne : m ≠ n := fun e => by
          have := List.all_eq_true.1 h2 n hn
          rw [e] at this; simp at this
        exact nodup_at s.nodup f1 hG hne b hb hbG
      · intro b hb
        rw [List.flatten_cons, List.mem_append] at hb
        rcases hb with hb | hb
        · exact ⟨m, List.mem_cons_self, F, f1, hb⟩
        · obtain ⟨n, hn, G, hG, hbG⟩ := g3 b hb
          exact ⟨n, List.mem_cons_of_mem _ hn, G, hG, hbG⟩
  obtain ⟨Gs, g1, g2, _⟩ := key ns hk
  refine ⟨H.ext, List.all_eq_true.2 fun i hi => ?_, Gs, g1, g2⟩
  obtain ⟨n, _, rfl⟩ := List.mem_map.1 hi
  cases hx : is[n]? with
  | none => exact Nat.ble_eq_true_of_le (Nat.zero_le _)
  | some j => exact Nat.ble_eq_true_of_le (H.bases j (List.mem_of_getElem? hx))
/-- the n-th thing, for reading -/
theorem Hold.get (H : Hold h0 h is) (n : Nat) (e : is[n]? = some i) : ∃ F, i.P h F ∧ ∀ b ∈ F, h0.size ≤ b ∧ b < h.size := by
  obtain ⟨Fs, a, s⟩ := H.fs
  obtain ⟨F, f1, f2⟩ := All.get n a e
  have mem : ∀ b ∈ F, b ∈ Fs.flatten := fun b hb => List.mem_flatten.2 ⟨_, List.mem_of_getElem? f1, hb⟩
  exact ⟨F, f2, fun b hb => ⟨s.lo b (mem b hb), s.hi b (mem b hb)⟩⟩
theorem Hold.rd {C : Cd α} {a : Option Addr} {m cap : Nat} {l : List α} (H : Hold h0 h is) (n : Nat) (e : is[n]? = some (own C a m cap l)) : Rd C h (Lt h) a cap l :=
  let ⟨_, o, s⟩ := H.get n e
  (show Own C h a cap l _ from o.1).rd.mono fun b hb => (s b hb).2
theorem Hold.len {C : Cd α} {a : Option Addr} {m cap : Nat} {l : List α} (H : Hold h0 h is) (n : Nat) (e : is[n]? = some (own C a m cap l)) : l.length = m :=
  let ⟨_, o, _⟩ := H.get n e
  o.2
/-- an item's inside, turned without touching the heap -/
theorem Hold.turn (H : Hold h0 h (i :: R)) (hi : ∀ F, i.P h F → j.P h F) (hb : j.base ≤ h0.size) : Hold h0 h (j :: R) := by
  obtain ⟨F, p, s, back⟩ := H.open
  exact back h j F (Fr.refl _ _) (hi F p) s (fun b hb => .inl hb) hb
end

/-! ### effects on things -/
section
variable {P : Program} {Q : Exit → Act → World → Prop} {N : Nat} {w0 : World} {k : List Ctl} {L : Env} {h0 h : Heap} {o : Oper} {K : Value → Heap → Prop} {R : List Item}
/-- what the table of types says of one -/
def TI (P : Program) (ty : Nat) (z : Value) (sz by' : Nat) : Prop := (P.info? ty).map (fun i => (i.zero, i.size, i.bytes)) = some (some z, sz, by')
theorem TI.get {ty : Nat} {z : Value} {sz b : Nat} (t : TI P ty z sz b) : ∃ i, P.info? ty = some i ∧ i.zero = some z ∧ i.size = sz ∧ i.bytes = b := info_parts t

/-! literals -/
theorem Enc.cons {C : Cd α} {h : Heap} {x : α} {vs : List Value} {Fx : List Nat} {l : List α} {xs : List Value} {Fs : List (List Nat)} (o : C.own h x vs Fx) (n : Enc C h l xs Fs) : Enc C h (x :: l) (vs ++ xs) (Fx :: Fs) := by
  have hl := C.own_len o
  have h1 : Enc C h [x] vs [Fx] := ⟨by simp [hl], rfl, fun i y hi => by
    have hi0 : i = 0 := by
      rcases Nat.eq_zero_or_pos i with h0 | h0
      · exact h0
      · rw [List.getElem?_eq_none (by simp; omega)] at hi; cases hi
    subst hi0
    simp at hi; subst hi
    exact ⟨vs, Fx, rfl, o, fun j v hj => by simpa using hj⟩⟩
  have := h1.append n
  simpa using this
/-- a literal of elements without blocks -/
theorem E_lit {C : Cd α} {n : Nat} {l : List α} {cs : List Value} (H : Hold h0 h R) (he : ∀ w, (execOp (rho L) o).run P w = .ok (.value (.slice (some ⟨w.heap.size, 0, none⟩) n n)) (w.alloc (.cells cs.toArray C.ty)))
    (en : Enc C h l cs (l.map fun _ => [])) (hn : l.length = n) (hs : n ≤ 9223372036854775807) (g : ∀ a h', Hold h0 h' (own C a n n l :: R) → K (.slice a n n) h') : Eff P w0 L h o K := by
  subst hn
  refine E_new (fun s => .slice (some ⟨s, 0, none⟩) l.length l.length) _ he fun h' e => ?_
  subst e
  have hf : (l.map fun _ => ([] : List Nat)).flatten = [] := flatten_nil fun F hF => by
    obtain ⟨_, _, rfl⟩ := List.mem_map.1 hF; rfl
  refine g _ _ (H.add (i := own C _ _ _ _) (Ext.push h _) (F := [h.size]) ⟨?_, rfl⟩ (Sep.fresh _) (Nat.zero_le _))
  have := Own.fresh (C := C) (h := h) (cs := cs.toArray) hs en (by rw [hf]; simp)
  rw [hf] at this
  exact this
/-! append -/
theorem E_app {C : Cd α} {z : Value} {b t ty n m cap c2 : Nat} {a a2 : Option Addr} {l ys r : List α} (H : Hold h0 h (own C a n cap l :: own C a2 m c2 ys :: R)) (hti : TI P C.ty z C.sz b) (hzc : z.cells.size = C.sz) (ht : P.underlying t = some (.slice C.ty)) (hb : b ≤ 64)
    (he : execOp (rho L) o = (do pure (.value (← Builtin.append_ #[t, t] ty #[.slice a n cap, .slice a2 m c2])))) (hr : l.length + ys.length ≤ 1099511627776 ∧ r = l ++ ys)
    (g : ∀ a' cap' h', Hold h0 h' (own C a' r.length cap' r :: R) → K (.slice a' r.length cap') h') : Eff P w0 L h o K := by
  obtain ⟨inf, i1, i2, i3, i4⟩ := hti.get
  obtain ⟨h1, rfl⟩ := hr
  refine E_run fun w hw => ?_
  have hw1 := hw.heap
  subst hw1
  obtain ⟨F, G, ⟨p, hn⟩, ⟨q, hm⟩, s, u, d, back⟩ := H.open2
  subst hn
  subst hm
  have p : Own C w.heap a cap l F := p
  have q : Own C w.heap a2 c2 ys G := q
  have hbz : (l.length + ys.length) * inf.bytes ≤ 140737488355328 := by
    rw [i4]; exact Nat.le_trans (Nat.mul_le_mul h1 hb) (by decide)
  rcases q.cells with ⟨rfl, rfl, rfl, rfl⟩ | ⟨g2, cs, Gs, rfl, hg2, k1, k2, k3, rfl, en⟩
  · have hfit : l.length ≤ cap := (p.at s).fits
    have e0 : l ++ [] = l := List.append_nil l
    have g0 := g a cap w.heap (back w.heap (own C a (l ++ []).length cap (l ++ [])) F (Fr.refl _ _) (by rw [e0]; exact ⟨p, rfl⟩) s (fun b hb => .inl hb) (Nat.zero_le _))
    rw [e0] at g0
    refine ⟨.slice a l.length cap, w, w.heap, .inl ?_, hw, g0⟩
    rw [he]
    rcases p.cells with ⟨rfl, rfl, rfl, _⟩ | ⟨g2, cs, Gs, rfl, _⟩
    · simp [Builtin.append_, run_underlying ht, sizeOf, typeInfo, i1, Builtin.lenOf, Builtin.firstCells]
    · simp [Builtin.append_, run_underlying ht, sizeOf, typeInfo, i1, Builtin.lenOf, Builtin.firstCells, hfit, storeCells]
  · have sG : Sep h0.size w.heap Gs.flatten := ⟨(List.nodup_cons.1 u.nodup).2, fun b hb => u.lo b (List.mem_cons_of_mem _ hb), fun b hb => u.hi b (List.mem_cons_of_mem _ hb)⟩
    have hcell : ∀ j v, (cs.toList.take (ys.length * C.sz))[j]? = some v → w.cell? ((⟨g2, 0, none⟩ : Addr).add j) = some v := by
      intro j v hv
      have hadd : (⟨g2, 0, none⟩ : Addr).add j = ⟨g2, j, none⟩ := by unfold Addr.add; split <;> simp_all
      rw [hadd, cell_of_row w g2 j _ _ _ hg2]
      simpa using take_get hv
    obtain ⟨a', cap', F', w', r1, r2, r3, r4, r5, r6, _⟩ := run_app (P := P) p s H.lo (ty := ty) ht i1 i2 i3 hzc en rfl hcell sG (fun b hb hg => d b hb (List.mem_cons_of_mem _ hg)) hbz (by omega) (c := c2)
    exact ⟨_, w', w'.heap, .inl (by rw [he]; simp [r1]), hw.str r5, g _ _ _ (back w'.heap (own C a' (l ++ ys).length cap' (l ++ ys)) F' (r4.weak fun b _ hb => List.mem_append.2 (.inl hb)) ⟨r2, rfl⟩ r3
      (fun b hb => by rcases r6 b hb with h | h | h; exact .inl h; exact .inr (.inl (List.mem_cons_of_mem _ h)); exact .inr (.inr h)) (Nat.zero_le _))⟩

theorem take_getA {xs : List α} {n p : Nat} {v : α} (h : (xs.take n)[p]? = some v) : xs[p]? = some v := by
  rw [List.getElem?_take] at h
  split at h
  · exact h
  · cases h
/-- elements that may be copied: no blocks of their own -/
def Copies (C : Cd α) : Prop := ∀ h B x vs, C.rd h B x vs → C.own h x vs []
theorem Rd.enc {C : Cd α} (hc : Copies C) {B : Bs} {cap : Nat} {ad : Addr} {l : List α} (r : Rd C h B (some ad) cap l) :
    ∃ news, Enc C h l news (List.replicate l.length []) ∧ ∀ j u, news[j]? = some u → cellH h (ad.add j) = some u := by
  by_cases hl0 : l = []
  · subst hl0
    exact ⟨[], Enc.nil C h, by simp⟩
  rcases r.cells with hl | ⟨b, off, cs, ty, fr, ha, hb, hg, hx⟩
  · exact absurd hl hl0
  cases ha
  have hpos : 0 < l.length := List.length_pos_iff.2 hl0
  have hle : off + l.length * C.sz ≤ cs.size := by
    obtain ⟨vs, h1, h2⟩ := hx (l.length - 1) _ (List.getElem?_eq_getElem (by omega))
    have hvl := C.rd_len h1
    have hp := C.pos
    have h3 := h2 (C.sz - 1) _ (List.getElem?_eq_getElem (by omega))
    have h4 := (Array.getElem?_eq_some_iff.1 h3).1
    have h5 : l.length * C.sz = (l.length - 1) * C.sz + C.sz := by rw [← Nat.succ_mul]; congr 1; omega
    omega
  refine ⟨(cs.toList.drop off).take (l.length * C.sz), ⟨by simp; omega, by simp, fun i x hi => ?_⟩, fun j u hj => ?_⟩
  · obtain ⟨vs, h1, h2⟩ := hx i x hi
    have hil := (List.getElem?_eq_some_iff.1 hi).1
    refine ⟨vs, [], by simp [hil], hc _ _ _ _ h1, fun j v hj => ?_⟩
    have hjl : j < C.sz := by rw [← C.rd_len h1]; exact (List.getElem?_eq_some_iff.1 hj).1
    have h3 : i * C.sz + C.sz ≤ l.length * C.sz := by rw [← Nat.succ_mul]; exact Nat.mul_le_mul_right _ hil
    rw [List.getElem?_take, if_pos (by omega), List.getElem?_drop, ← Nat.add_assoc]
    simpa using h2 j v hj
  · have h1 := take_get hj
    rw [List.getElem?_drop] at h1
    have hadd : (⟨b, off, none⟩ : Addr).add j = ⟨b, off + j, none⟩ := by unfold Addr.add; split <;> simp_all
    rw [hadd, cellH]
    simp only [hg, Option.isSome_none, Bool.false_eq_true, if_false]
    simpa using h1
theorem flatten_replicate_nil (n : Nat) : (List.replicate n ([] : List Nat)).flatten = [] := flatten_nil fun F hF => List.eq_of_mem_replicate hF
theorem E_appR {C : Cd α} {z : Value} {b t ty n m cap c2 : Nat} {B : Bs} {a a2 : Option Addr} {l ys r : List α} (H : Hold h0 h (own C a n cap l :: R)) (hc : Copies C) (rd : Rd C h B a2 c2 ys) (hm : ys.length = m) (hti : TI P C.ty z C.sz b) (hzc : z.cells.size = C.sz) (ht : P.underlying t = some (.slice C.ty)) (hb : b ≤ 64)
    (he : execOp (rho L) o = (do pure (.value (← Builtin.append_ #[t, t] ty #[.slice a n cap, .slice a2 m c2])))) (hr : l.length + ys.length ≤ 1099511627776 ∧ r = l ++ ys)
    (g : ∀ a' cap' h', Hold h0 h' (own C a' r.length cap' r :: R) → K (.slice a' r.length cap') h') : Eff P w0 L h o K := by
  obtain ⟨inf, i1, i2, i3, i4⟩ := hti.get
  obtain ⟨h1, rfl⟩ := hr
  refine E_run fun w hw => ?_
  have hw1 := hw.heap
  subst hw1
  obtain ⟨F, ⟨p, hn⟩, s, back⟩ := H.open
  subst hn
  subst hm
  have p : Own C w.heap a cap l F := p
  have hbz : (l.length + ys.length) * inf.bytes ≤ 140737488355328 := by
    rw [i4]; exact Nat.le_trans (Nat.mul_le_mul h1 hb) (by decide)
  cases a2 with
  | none =>
    have hy : ys = [] := by
      rcases rd.cells with h | ⟨_, _, _, _, _, h, _⟩
      · exact h
      · cases h
    subst hy
    have hfit : l.length ≤ cap := (p.at s).fits
    have e0 : l ++ [] = l := List.append_nil l
    have g0 := g a cap w.heap (by rw [e0]; exact back w.heap (own C a l.length cap l) F (Fr.refl _ _) ⟨p, rfl⟩ s (fun b hb => .inl hb) (Nat.zero_le _))
    rw [e0] at g0
    refine ⟨.slice a l.length cap, w, w.heap, .inl ?_, hw, g0⟩
    rw [he]
    rcases p.cells with ⟨rfl, rfl, rfl, _⟩ | ⟨g2, cs, Gs, rfl, _⟩
    · simp [Builtin.append_, run_underlying ht, sizeOf, typeInfo, i1, Builtin.lenOf, Builtin.firstCells]
    · simp [Builtin.append_, run_underlying ht, sizeOf, typeInfo, i1, Builtin.lenOf, Builtin.firstCells, hfit, storeCells]
  | some ad =>
    obtain ⟨news, en, hcell⟩ := rd.enc hc
    obtain ⟨a', cap', F', w', r1, r2, r3, r4, r5, r6, _⟩ := run_app (P := P) p s H.lo (ty := ty) ht i1 i2 i3 hzc en rfl hcell (by rw [flatten_replicate_nil]; exact Sep.nil _ _) (by rw [flatten_replicate_nil]; intro b _ hb; cases hb) hbz (by omega) (c := c2)
    rw [flatten_replicate_nil] at r6
    exact ⟨_, w', w'.heap, .inl (by rw [he]; simp [r1]), hw.str r5, g _ _ _ (back w'.heap (own C a' (l ++ ys).length cap' (l ++ ys)) F' r4 ⟨r2, rfl⟩ r3 (fun b hb => by rcases r6 b hb with h | h | h; exact .inl h; cases h; exact .inr h) (Nat.zero_le _))⟩

/-! stores -/
end
end Go.Proofs.YtfhphkiggdepaaaDoor
