/-
  Plain proofs: the plain program of the law ends with true.
  Conditions: None beyond the given statement.
-/
import Derived.Test.YtelopfgolahlpaaB
namespace Go.Proofs.Ytelopfgolahlpaa
open Go
theorem RatP.bds {x d : Int} {r : TRatio} (h : RatP x d r) (hx : -20000000 ≤ x ∧ x ≤ 20000000) : (-20000000 ≤ r.Num ∧ r.Num ≤ 20000000) ∧ r.Den ≤ d := by
  obtain ⟨g, g0, e1, e2⟩ := h.mul
  obtain ⟨k, hk, rfl⟩ : ∃ k, 0 ≤ k ∧ g = k + 1 := ⟨g - 1, by omega, by omega⟩
  rw [Int.add_mul, Int.one_mul] at e1 e2
  have p := Int.mul_nonneg hk (Int.le_of_lt h.pos)
  by_cases hn : 0 ≤ r.Num
  · have := Int.mul_nonneg hk hn
    omega
  · have := Int.mul_nonneg hk (show 0 ≤ -r.Num by omega)
    rw [Int.mul_neg] at this
    omega
theorem RatP.lt_iff {x d x' d' : Int} {r r' : TRatio} (h : RatP x d r) (h' : RatP x' d' r') : r.Num * r'.Den < r'.Num * r.Den ↔ x * d' < x' * d := by
  obtain ⟨g, g0, e1, e2⟩ := h.mul
  obtain ⟨g', g0', e1', e2'⟩ := h'.mul
  have k1 : x * d' = (g * g') * (r.Num * r'.Den) := by rw [e1, e2']; grind
  have k2 : x' * d = (g * g') * (r'.Num * r.Den) := by rw [e1', e2]; grind
  have hp := Int.mul_pos g0 g0'
  rw [k1, k2]
  exact ⟨fun h => Int.mul_lt_mul_of_pos_left h hp, fun h => Int.lt_of_mul_lt_mul_left h (Int.le_of_lt hp)⟩
theorem prod_bd {x d : Int} (h1 : -20000000 ≤ x ∧ x ≤ 20000000) (h2 : 0 < d ∧ d ≤ 10) : -200000000 ≤ x * d ∧ x * d ≤ 200000000 := by
  have a1 := Int.mul_le_mul_of_nonneg_right h1.1 (show 0 ≤ d by omega)
  have a2 := Int.mul_le_mul_of_nonneg_right h1.2 (show 0 ≤ d by omega)
  omega
theorem cmpR_ok {x d x' d' : Int} {r r' : TRatio} (h : RatP x d r) (h' : RatP x' d' r') (hx : -20000000 ≤ x ∧ x ≤ 20000000) (hx' : -20000000 ≤ x' ∧ x' ≤ 20000000) (hd : d ≤ 10) (hd' : d' ≤ 10) :
    ∃ c, M.Conv (impl_compareRatios r r') c ∧ (c < 0 ↔ x * d' < x' * d) ∧ (0 < c ↔ x' * d < x * d') := by
  have b1 := h.bds hx
  have b2 := h'.bds hx'
  have p1 := h.pos
  have p2 := h'.pos
  have m1 := prod_bd b1.1 (d := r'.Den) (by omega)
  have m2 := prod_bd b2.1 (d := r.Den) (by omega)
  have l1 := h.lt_iff h'
  have l2 := h'.lt_iff h
  refine ⟨_, M.Conv_bind (cmp_ok _ _) (M.Conv_ret _), ?_, ?_⟩
  · rw [w64_eq _ (by omega), w64_eq _ (by omega), ← l1]
    by_cases h1 : r.Num * r'.Den < r'.Num * r.Den
    · simp [h1]
    · by_cases h2 : r'.Num * r.Den < r.Num * r'.Den
      · simp [h1, h2]
      · simp [h1, h2]
  · rw [w64_eq _ (by omega), w64_eq _ (by omega), ← l2]
    by_cases h1 : r.Num * r'.Den < r'.Num * r.Den
    · simp [h1]; omega
    · by_cases h2 : r'.Num * r.Den < r.Num * r'.Den
      · simp [h1, h2]
      · simp [h1, h2]
/-- the least of the first m quotients at node i -/
structure Mn (F : Nat → List Int) (n i m : Nat) (X D : Int) : Prop where
  dd : 0 < D ∧ D ≤ 10
  xx : -20000000 ≤ X ∧ X ≤ 20000000
  on : ∃ k, k < m ∧ nd (F k) i ≠ -1000000000000000 ∧ X = nd (F n) i - nd (F k) i ∧ D = (n : Int) - k
  le : ∀ k, k < m → nd (F k) i ≠ -1000000000000000 → X * ((n : Int) - k) ≤ (nd (F n) i - nd (F k) i) * D
def InJ (F : Nat → List Int) (n i m : Nat) (st : TRatio × Bool) : Prop :=
  (st.2 = false ∧ ∀ k, k < m → nd (F k) i = -1000000000000000) ∨ (st.2 = true ∧ ∃ X D, RatP X D st.1 ∧ Mn F n i m X D)
def OuJ (F : Nat → List Int) (n m : Nat) (st : TRatio × Bool) : Prop :=
  (st.2 = false ∧ ∀ i, i < m → nd (F n) i = -1000000000000000) ∨ (st.2 = true ∧ ∃ X D, RatP X D st.1 ∧ (∃ i, i < m ∧ nd (F n) i ≠ -1000000000000000 ∧ Mn F n i n X D) ∧ ∀ i, i < m → nd (F n) i ≠ -1000000000000000 → ∀ X' D', Mn F n i n X' D' → X' * D ≤ X * D')
theorem in_step {F : Nat → List Int} {n i k : Nat} (hn : n ≤ 10) (hk : k < n) {X D : Int} {st : TRatio × Bool} {r : TRatio} (hX : X = nd (F n) i - nd (F k) i) (hb : -20000000 ≤ X ∧ X ≤ 20000000) (hD : D = (n : Int) - k) (hne : nd (F k) i ≠ -1000000000000000) (hr : RatP X D r) (h : InJ F n i k st) :
    M.TC (M.bind (M.ite (!st.2) (M.ret true) (M.bind (impl_compareRatios r st.1) (fun x16 => M.ret (decide (x16 < 0))))) (fun x15 => M.ite x15 (M.ret (r, true)) (M.ret (st.1, st.2)))) (InJ F n i (k + 1)) := by
  have self : X * ((n : Int) - k) ≤ (nd (F n) i - nd (F k) i) * D := by rw [← hX, ← hD]; exact Int.le_refl _
  rcases h with ⟨h1, h2⟩ | ⟨h1, X', D', h2, h3⟩
  · rw [h1]
    refine M.TC_bindC (x := true) (M.Conv_ite (fun _ => M.Conv_ret _) (fun t => by cases t)) (M.TC_ite (fun _ => M.TC_ret (.inr ⟨rfl, X, D, hr, by omega, hb, ⟨k, by omega, hne, hX, hD⟩, fun q hq hqne => ?_⟩)) (fun t => by cases t))
    by_cases e : q = k
    · rw [e]; exact self
    · exact absurd (h2 q (by omega)) hqne
  · rw [h1]
    obtain ⟨c, c1, c2, _⟩ := cmpR_ok hr h2 hb h3.xx (by omega) h3.dd.2
    have h3d := h3.dd
    refine M.TC_bindC (x := decide (c < 0)) (M.Conv_ite (fun t => by cases t) (fun _ => M.Conv_bind c1 (M.Conv_ret _))) (M.TC_ite (fun t => M.TC_ret (.inr ⟨rfl, X, D, hr, by omega, hb, ⟨k, by omega, hne, hX, hD⟩, fun q hq hqne => ?_⟩)) (fun t => M.TC_ret (.inr ⟨rfl, X', D', h2, h3.dd, h3.xx, ?_, fun q hq hqne => ?_⟩)))
    · have t := c2.1 (of_decide_eq_true t)
      by_cases e : q = k
      · rw [e]; exact self
      · exact cross_le (Int.le_of_lt t) (h3.le q (by omega) hqne) h3d.1 (by omega) (by omega)
    · obtain ⟨k', g1, g2⟩ := h3.on
      exact ⟨k', by omega, g2⟩
    · have t : ¬ X * D' < X' * D := fun h => of_decide_eq_false t (c2.2 h)
      by_cases e : q = k
      · rw [e, ← hX, ← hD]; omega
      · exact h3.le q (by omega) hqne
theorem least_ex {a : List (List Int)} (hm : Mat a a.length) {i : Nat} (hi : i < a.length) (hne : nd (Fs a a.length) i ≠ -1000000000000000) : ∃ X D, Mn (Fs a) a.length i a.length X D := by
  have hrows := hm.rows
  have hB := mat_ent hm
  have bn := ((fs_ok hm a.length (by omega)).bd hB (by omega) hi).resolve_left hne
  have h0 : nd (Fs a 0) i ≠ -1000000000000000 := by simp [Fs, nd, hi]
  have key : ∀ m, 1 ≤ m → m ≤ a.length → ∃ X D, Mn (Fs a) a.length i m X D := by
    intro m
    induction m with
    | zero => intro h; omega
    | succ m ih =>
      intro _ h2
      have self : ∀ k, k < a.length → nd (Fs a k) i ≠ -1000000000000000 → -20000000 ≤ nd (Fs a a.length) i - nd (Fs a k) i ∧ nd (Fs a a.length) i - nd (Fs a k) i ≤ 20000000 := fun k hk hkne => by
        have := ((fs_ok hm k (by omega)).bd hB (by omega) hi).resolve_left hkne
        omega
      by_cases hm0 : m = 0
      · subst hm0
        refine ⟨_, _, by omega, self 0 (by omega) h0, ⟨0, by omega, h0, rfl, rfl⟩, fun k hk hkne => ?_⟩
        rw [show k = 0 by omega]; exact Int.le_refl _
      · obtain ⟨X, D, h⟩ := ih (by omega) (by omega)
        have hd := h.dd
        by_cases hc : nd (Fs a m) i ≠ -1000000000000000 ∧ (nd (Fs a a.length) i - nd (Fs a m) i) * D < X * ((a.length : Int) - m)
        · refine ⟨_, _, by omega, self m (by omega) hc.1, ⟨m, by omega, hc.1, rfl, rfl⟩, fun k hk hkne => ?_⟩
          by_cases e : k = m
          · rw [e]; exact Int.le_refl _
          · exact cross_le (Int.le_of_lt hc.2) (h.le k (by omega) hkne) hd.1 (by omega) (by omega)
        · refine ⟨X, D, hd, h.xx, ?_, fun k hk hkne => ?_⟩
          · obtain ⟨k, g1, g2⟩ := h.on
            exact ⟨k, by omega, g2⟩
          · by_cases e : k = m
            · subst e
              exact Int.not_lt.1 fun h => hc ⟨hkne, h⟩
            · exact h.le k (by omega) hkne
  exact key a.length (by omega) (Nat.le_refl _)
theorem cycleMean_tc {a : List (List Int)} (hm : Mat a a.length) : M.TC (impl_cycleMean a) (fun r => (r.2 = false ∧ ∀ l w, ¬ Cl a a.length l w) ∨ (r.2 = true ∧ ∃ l W, MaxC a a.length l W ∧ RatP W (l.length : Int) r.1)) := by
  have hrows := hm.rows
  have hB := mat_ent hm
  have hF : ∀ k, k ≤ a.length → FkP a a.length k (Fs a k) := fun k hk => fs_ok hm k (by omega)
  unfold impl_cycleMean
  refine M.TC_bindC ((M.Conv_make (by omega) (by omega)).of (r' := Fs a 0) (by rw [Int.toNat_natCast]; rfl)) ?_
  refine M.TC_bindC (x := tab (a.length + 1) (Fs a)) (Conv_forV (fun i => tab (i + 1) (Fs a)) (by omega) fun i hi => ?_) ?_
  · exact M.Conv_bind (idx_tab (by omega)) (M.Conv_bind (impl_timesVector_ok hm (fs_len a i)) (M.Conv_bind (M.Conv_app (by simp [tab_len]; omega)) ((M.Conv_ret _).of (congrArg Sum.inl (tab_snoc (i + 1) (Fs a))))))
  have rd : ∀ k i, k ≤ a.length → i < a.length → M.Conv (M.idx (tab (a.length + 1) (Fs a)) (k : Int)) (Fs a k) ∧ M.Conv (M.idx (Fs a k) (i : Int)) (nd (Fs a k) i) := fun k i hk hi => ⟨idx_tab (by omega), nd_read (by rw [fs_len]; exact hi)⟩
  refine M.TC_bind (M.TC_forN (OuJ (Fs a) a.length) (by omega) (.inl ⟨rfl, fun i hi => by omega⟩) (fun i st hi hJ => ?_)) (fun st hJ => M.TC_ret ?_)
  · refine M.TC_bind (Mid := OuJ (Fs a) a.length (i + 1)) ?_ (fun st hst => M.TC_ret ⟨_, rfl, hst⟩)
    obtain ⟨n1, n2⟩ := rd a.length i (Nat.le_refl _) hi
    refine M.TC_bindC n1 (M.TC_bindC n2 (M.TC_ite (fun t => M.TC_ret ?_) (fun t => ?_)))
    · have t := eq_of_beq t
      rcases hJ with ⟨h1, h2⟩ | ⟨h1, X, D, h2, ⟨i', h3, h4⟩, h5⟩
      · refine .inl ⟨h1, fun q hq => ?_⟩
        by_cases e : q = i
        · rw [e]; exact t
        · exact h2 q (by omega)
      · refine .inr ⟨h1, X, D, h2, ⟨i', by omega, h4⟩, fun q hq hne => ?_⟩
        by_cases e : q = i
        · rw [e] at hne; exact absurd t hne
        · exact h5 q (by omega) hne
    · have hne : nd (Fs a a.length) i ≠ -1000000000000000 := by simpa using t
      have hbn := ((hF a.length (Nat.le_refl _)).bd hB (by omega) hi).resolve_left hne
      refine M.TC_bind (M.TC_forN (InJ (Fs a) a.length i) (by omega) (.inl ⟨rfl, fun k hk => by omega⟩) (fun k st hk hI => ?_)) (fun x7 hx7 => ?_)
      · refine M.TC_bind (Mid := InJ (Fs a) a.length i (k + 1)) ?_ (fun st hst => M.TC_ret ⟨_, rfl, hst⟩)
        obtain ⟨k1, k2⟩ := rd k i (by omega) hi
        refine M.TC_bindC k1 (M.TC_bindC k2 (M.TC_ite (fun t => M.TC_ret ?_) (fun t => ?_)))
        · have t := eq_of_beq t
          rcases hI with ⟨h1, h2⟩ | ⟨h1, X, D, h2, h3⟩
          · refine .inl ⟨h1, fun q hq => ?_⟩
            by_cases e : q = k
            · rw [e]; exact t
            · exact h2 q (by omega)
          · refine .inr ⟨h1, X, D, h2, h3.dd, h3.xx, ?_, fun q hq hqne => ?_⟩
            · obtain ⟨k', g1, g2⟩ := h3.on
              exact ⟨k', by omega, g2⟩
            · by_cases e : q = k
              · rw [e] at hqne; exact absurd t hqne
              · exact h3.le q (by omega) hqne
        · have hkne : nd (Fs a k) i ≠ -1000000000000000 := by simpa using t
          have hbk := ((hF k (by omega)).bd hB (by omega) hi).resolve_left hkne
          have e1 : w64 (nd (Fs a a.length) i - nd (Fs a k) i) = nd (Fs a a.length) i - nd (Fs a k) i := w64_eq _ (by omega)
          have e2 : w64 ((a.length : Int) - (k : Int)) = (a.length : Int) - (k : Int) := w64_eq _ (by omega)
          obtain ⟨r, _, r2, r3⟩ := ratio_ok (x := nd (Fs a a.length) i - nd (Fs a k) i) (d := (a.length : Int) - (k : Int)) (by omega) (by omega)
          refine M.TC_bindC n1 (M.TC_bindC n2 (M.TC_bindC k1 (M.TC_bindC k2 ?_)))
          rw [e1, e2]
          exact M.TC_bindC r2 (in_step (by omega) hk rfl (by omega) rfl hkne r3 hI)
      · -- the least quotient stands
        have h0 : nd (Fs a 0) i ≠ -1000000000000000 := by simp [Fs, nd, hi]
        obtain ⟨X, D, hr, hmn⟩ : ∃ X D, RatP X D x7.1 ∧ Mn (Fs a) a.length i a.length X D := by
          rcases hx7 with ⟨_, h2⟩ | ⟨_, h2⟩
          · exact absurd (h2 0 (by omega)) h0
          · exact h2
        have self : ∀ X' D', Mn (Fs a) a.length i a.length X' D' → X' * D ≤ X * D' := fun X' D' h' => by
          obtain ⟨k, g1, g2, g3, g4⟩ := hmn.on
          have := h'.le k g1 g2
          rw [← g3, ← g4] at this
          exact this
        rcases hJ with ⟨h1, h2⟩ | ⟨h1, X', D', h2, ⟨i', h3, h4, h4'⟩, h5⟩
        · rw [h1]
          refine M.TC_bindC (x := true) (M.Conv_ite (fun _ => M.Conv_ret _) (fun t => by cases t)) (M.TC_ite (fun _ => M.TC_ret (.inr ⟨rfl, X, D, hr, ⟨i, by omega, hne, hmn⟩, fun q hq hqne => ?_⟩)) (fun t => by cases t))
          by_cases e : q = i
          · rw [e]; exact self
          · exact absurd (h2 q (by omega)) hqne
        · rw [h1]
          have d1 := hmn.dd
          have d2 := h4'.dd
          obtain ⟨c, c1, _, c2⟩ := cmpR_ok hr h2 hmn.xx h4'.xx d1.2 d2.2
          refine M.TC_bindC (x := decide (0 < c)) (M.Conv_ite (fun t => by cases t) (fun _ => M.Conv_bind c1 (M.Conv_ret _))) (M.TC_ite (fun t => M.TC_ret (.inr ⟨rfl, X, D, hr, ⟨i, by omega, hne, hmn⟩, fun q hq hqne X2 D2 hq2 => ?_⟩)) (fun t => M.TC_ret (.inr ⟨rfl, X', D', h2, ⟨i', by omega, h4, h4'⟩, fun q hq hqne X2 D2 hq2 => ?_⟩)))
          · have t := c2.1 (of_decide_eq_true t)
            by_cases e : q = i
            · rw [e] at hq2; exact self X2 D2 hq2
            · exact cross_le (h5 q (by omega) hqne X2 D2 hq2) (Int.le_of_lt t) d2.1 hq2.dd.1 d1.1
          · have t : ¬ X' * D < X * D' := fun h => of_decide_eq_false t (c2.2 h)
            by_cases e : q = i
            · rw [e] at hq2
              exact cross_le (self X2 D2 hq2) (by omega) d1.1 hq2.dd.1 d2.1
            · exact h5 q (by omega) hqne X2 D2 hq2
  · rcases hJ with ⟨h1, h2⟩ | ⟨h1, X, D, h2, ⟨i, h3, h4, h4'⟩, h5⟩
    · refine .inl ⟨h1, fun l w hc => ?_⟩
      obtain ⟨v, m, u, g1, g2⟩ := hc.long a.length
      rw [show m = a.length + (m - a.length) by omega] at g2
      obtain ⟨x, w1, w2, g3, _, _⟩ := Wlk.split a.length _ g2
      exact ((hF a.length (Nat.le_refl _)).cpl x v w1 g3).1 (h2 x g3.lt.2)
    · obtain ⟨j, hw⟩ := ((hF a.length (Nat.le_refl _)).snd i h3).resolve_left h4
      obtain ⟨l, W, hmc⟩ := max_cycle (by omega) hB (hw.cyc (Nat.le_refl _))
      obtain ⟨hs, hp⟩ := hmc.sh (by omega) hB
      have hlen := hmc.wc.len
      refine .inr ⟨h1, l, W, hmc, ?_⟩
      have d1 := h4'.dd
      -- from above
      have up : X * (l.length : Int) ≤ W * D := by
        obtain ⟨k, g1, g2, g3⟩ := karp_le hs hp hF h3 h4
        have := h4'.le k g1 g2
        refine cross_le (X := nd (Fs a a.length) i - nd (Fs a k) i) (D := (a.length : Int) - k) this ?_ (by omega) d1.1 (by omega)
        rw [Int.mul_comm]; exact g3
      have dn : W * D ≤ X * (l.length : Int) := by
        obtain ⟨i0, g0, g1, g2⟩ := karp_ge (by omega) hs hp hmc.wc.cl rfl hF
        -- the least quotient at i0
        obtain ⟨X0, D0, hmn⟩ : ∃ X0 D0, Mn (Fs a) a.length i0 a.length X0 D0 := least_ex hm g0 g1
        obtain ⟨k, k1, k2, k3, k4⟩ := hmn.on
        have := g2 k k1 k2
        rw [← k3, ← k4] at this
        have d0 := hmn.dd
        rw [Int.mul_comm (l.length : Int)] at this
        exact cross_le (X := X0) (D := D0) this (h5 i0 g0 g1 X0 D0 hmn) d0.1 (by omega) d1.1
      obtain ⟨r, _, _, r3⟩ := ratio_ok (x := W) (d := (l.length : Int)) (by have := hs.hW; omega) (by omega)
      have := (h2.eq_iff d1.1 (by omega) r3).2 (by omega)
      rw [this]; exact r3

theorem CycleMean_tc {a : List (List Int)} (sa : smII a) (hs : sqB a = true) : M.TC (impl_CycleMean a) (fun w => w.2 = 3 ∨ (w.2 = 4 ∧ ∀ l w, ¬ Cl a a.length l w) ∨ (w.2 = 0 ∧ ∃ l W, MaxC a a.length l W ∧ RatP W (l.length : Int) w.1)) := by
  have hm := sq_mat hs
  unfold impl_CycleMean
  refine M.TC_bindC (impl_isSquare_ok sa) (M.TC_ite (fun t => by rw [hs] at t; cases t) (fun _ => M.TC_bind (cycleMean_tc hm) fun x hx => ?_))
  refine M.TC_ite (fun t => M.TC_ret (.inr (.inl ⟨rfl, ?_⟩))) (fun t => ?_)
  · rcases hx with ⟨_, h⟩ | ⟨h, _⟩
    · exact h
    · rw [h] at t; cases t
  · obtain ⟨b, _, b2, _⟩ := isRatio_same x.1
    have hx := (hx.resolve_left fun h => by rw [h.1] at t; cases t).2
    refine M.TC_bind (Mid := fun w => w.2 = 3 ∨ (w.2 = 0 ∧ w.1 = x.1)) (M.TC_bindC b2 (M.TC_ite (fun _ => M.TC_ret (.inl rfl)) (fun _ => M.TC_ret (.inr ⟨rfl, rfl⟩)))) fun w hw => M.TC_ret ?_
    rcases hw with h | ⟨h1, h2⟩
    · exact .inl h
    · exact .inr (.inr ⟨h1, by rw [h2]; exact hx⟩)
/-- a walk from j: v, does it meet node 0; t loops at 0; m arcs; s, the weight of the other arcs -/
inductive DW (a : List (List Int)) (n j : Nat) : Bool → Nat → Nat → Nat → Int → Prop
  | nil : j < n → DW a n j (j == 0) 0 0 j 0
  | loop (v : Bool) (t m : Nat) (s : Int) : DW a n j v t m 0 s → entA a 0 0 ≠ -1000000000000000 → DW a n j true (t + 1) (m + 1) 0 s
  | step (v : Bool) (t m i i' : Nat) (s : Int) : DW a n j v t m i s → i' < n → entA a i' i ≠ -1000000000000000 → ¬ (i = 0 ∧ i' = 0) → DW a n j (v || i' == 0) t (m + 1) i' (s + entA a i' i)
theorem DW.lt {a : List (List Int)} {n j : Nat} {v : Bool} {t m i : Nat} {s : Int} (h : DW a n j v t m i s) : j < n ∧ i < n ∧ t ≤ m := by
  induction h with
  | nil hj => exact ⟨hj, hj, Nat.le_refl _⟩
  | loop v t m s _ _ ih => exact ⟨ih.1, ih.2.1, by omega⟩
  | step v t m i i' s _ hi _ _ ih => exact ⟨ih.1, hi, by omega⟩
theorem DW.at0 {a : List (List Int)} {n j : Nat} {v : Bool} {t m i : Nat} {s : Int} (h : DW a n j v t m i s) (hi : i = 0) : v = true := by
  cases h with
  | nil hj => subst hi; rfl
  | loop => rfl
  | step => subst hi; simp
theorem DW.wlk {a : List (List Int)} {n j : Nat} {v : Bool} {t m i : Nat} {s : Int} (h : DW a n j v t m i s) : Wlk a n j m i ((t : Int) * entA a 0 0 + s) := by
  induction h with
  | nil hj => simpa using Wlk.nil hj
  | loop v t m s h ha ih =>
    have := Wlk.step m 0 0 _ ih (by have := h.lt; omega) ha
    rw [show ((t + 1 : Nat) : Int) * entA a 0 0 + s = (t : Int) * entA a 0 0 + s + entA a 0 0 by rw [Int.natCast_add, Int.add_mul]; simp only [Int.natCast_one, Int.one_mul]; omega]
    exact this
  | step v t m i i' s h hi ha hne ih =>
    have := Wlk.step m i i' _ ih hi ha
    rw [← Int.add_assoc]; exact this
theorem Wlk.dw {a : List (List Int)} {n j m i : Nat} {w : Int} (h : Wlk a n j m i w) : ∃ v t s, DW a n j v t m i s ∧ w = (t : Int) * entA a 0 0 + s := by
  induction h with
  | nil hj => exact ⟨_, 0, 0, .nil hj, by simp⟩
  | step m i i' w hw hi ha ih =>
    obtain ⟨v, t, s, h, rfl⟩ := ih
    by_cases e : i = 0 ∧ i' = 0
    · obtain ⟨rfl, rfl⟩ := e
      refine ⟨true, t + 1, s, .loop v t m s h ha, ?_⟩
      rw [Int.natCast_add, Int.add_mul]; simp only [Int.natCast_one, Int.one_mul]; omega
    · exact ⟨_, t, _, .step v t m i i' s h hi ha e, by omega⟩
/-- one loop more -/
theorem DW.ins {a : List (List Int)} {n j : Nat} {v : Bool} {t m i : Nat} {s : Int} (ha : entA a 0 0 ≠ -1000000000000000) (h : DW a n j v t m i s) : v = true → DW a n j true (t + 1) (m + 1) i s := by
  induction h with
  | nil hj => intro hv; have hv : j = 0 := by simpa using hv
              subst hv; exact .loop _ 0 0 0 (.nil hj) ha
  | loop v t m s h ha' ih => intro _; exact .loop _ _ _ _ (ih (h.at0 rfl)) ha
  | step v t m i i' s h hi ha' hne ih =>
    intro hv
    by_cases hv2 : v = true
    · have := DW.step true (t + 1) (m + 1) i i' s (ih hv2) hi ha' hne
      simpa using this
    · have e : i' = 0 := by
        cases v with
        | true => exact absurd rfl hv2
        | false => simpa using hv
      subst e
      exact .loop _ _ _ _ (.step v t m i 0 s h hi ha' hne) ha
theorem DW.insN {a : List (List Int)} {n j : Nat} {t m i : Nat} {s : Int} (ha : entA a 0 0 ≠ -1000000000000000) (h : DW a n j true t m i s) : ∀ q, DW a n j true (t + q) (m + q) i s
  | 0 => h
  | q + 1 => (DW.insN ha h q).ins ha rfl
/-- one loop less -/
theorem DW.del {a : List (List Int)} {n j : Nat} {v : Bool} {t m i : Nat} {s : Int} (h : DW a n j v t m i s) : ∀ t', t = t' + 1 → ∃ m', m = m' + 1 ∧ DW a n j true t' m' i s ∧ entA a 0 0 ≠ -1000000000000000 := by
  induction h with
  | nil hj => intro t' e; omega
  | loop v t m s h ha ih =>
    intro t' e
    obtain rfl : t = t' := by omega
    have := h.at0 rfl
    subst this
    exact ⟨m, rfl, h, ha⟩
  | step v t m i i' s h hi ha hne ih =>
    intro t' e
    obtain ⟨m', rfl, h', ha'⟩ := ih t' e
    have := DW.step true t' m' i i' s h' hi ha hne
    exact ⟨m' + 1, rfl, by simpa using this, ha'⟩
theorem DW.delN {a : List (List Int)} {n j : Nat} : ∀ (q : Nat) {v : Bool} {t m i : Nat} {s : Int}, DW a n j v (t + q) m i s → 1 ≤ q → ∃ m', m = m' + q ∧ DW a n j true t m' i s ∧ entA a 0 0 ≠ -1000000000000000
  | 0, v, t, m, i, s, h, hq => by omega
  | q + 1, v, t, m, i, s, h, hq => by
    obtain ⟨m', rfl, h', ha⟩ := h.del (t + q) (by omega)
    by_cases hq2 : q = 0
    · subst hq2; exact ⟨m', rfl, h', ha⟩
    · obtain ⟨m2, rfl, h2, _⟩ := DW.delN q h' (by omega)
      exact ⟨m2, by omega, h2, ha⟩
/-- small entries but for the loop -/
def SmA (a : List (List Int)) (n : Nat) : Prop := ∀ i j, i < n → j < n → ¬ (j = 0 ∧ i = 0) → entA a i j = -1000000000000000 ∨ (-10 ≤ entA a i j ∧ entA a i j ≤ 15)
theorem DW.sm {a : List (List Int)} {n j : Nat} (hs : SmA a n) {v : Bool} {t m i : Nat} {s : Int} (h : DW a n j v t m i s) : -(10 * ((m : Int) - t)) ≤ s ∧ s ≤ 15 * ((m : Int) - t) := by
  induction h with
  | nil hj => simp
  | loop v t m s h ha ih => omega
  | step v t m i i' s h hi ha hne ih =>
    have := (hs i' i hi h.lt.2.1 hne).resolve_left ha
    omega
/-- the vector of the orbit's place m -/
structure OrP (a : List (List Int)) (n : Nat) (x : Nat → Int) (m : Nat) (F : Nat → Int) : Prop where
  snd : ∀ i, i < n → F i = -1000000000000000 ∨ ∃ j w, x j ≠ -1000000000000000 ∧ Wlk a n j m i w ∧ F i = x j + w
  cpl : ∀ i j w, x j ≠ -1000000000000000 → Wlk a n j m i w → F i ≠ -1000000000000000 ∧ x j + w ≤ F i
def SmX (x : Nat → Int) (n : Nat) : Prop := ∀ i, i < n → x i = -1000000000000000 ∨ (-15 ≤ x i ∧ x i ≤ 15)
/-- what is told of a repeat -/
structure RepP (a : List (List Int)) (n : Nat) (x : Nat → Int) (k c : Nat) (g : Int) (Fk F1 Fc : Nat → Int) : Prop where
  sa : SmA a n
  sx : SmX x n
  ok : OrP a n x k Fk
  o1 : OrP a n x (k + 1) F1
  oc : OrP a n x (k + c) Fc
  kc : k + c ≤ 100
  c2 : 2 ≤ c
  n10 : n ≤ 10
  sup : ∀ i, i < n → (Fk i = -1000000000000000 ↔ Fc i = -1000000000000000)
  sh : ∀ i, i < n → Fk i ≠ -1000000000000000 → Fc i = Fk i + g
  ne : ∃ i, i < n ∧ Fk i ≠ -1000000000000000
theorem mul_big {t t' : Nat} {α σ σ' : Int} (h : (t : Int) * α + σ = (t' : Int) * α + σ') (hα : 10000 < α ∨ α < -10000) (b : -4000 ≤ σ ∧ σ ≤ 4000) (b' : -4000 ≤ σ' ∧ σ' ≤ 4000) : t = t' := by
  have e : ((t : Int) - t') * α = σ' - σ := by rw [Int.sub_mul]; omega
  apply Classical.byContradiction
  intro hne
  rcases Nat.lt_or_gt_of_ne hne with hlt | hlt
  · obtain ⟨d, hd⟩ : ∃ d : Nat, (t' : Int) - t = d + 1 := ⟨t' - t - 1, by omega⟩
    have e2 : (t : Int) - t' = -(d + 1) := by omega
    rw [e2, Int.neg_mul, Int.add_mul, Int.one_mul] at e
    rcases hα with hα | hα
    · have := Int.mul_nonneg (show (0 : Int) ≤ d by omega) (show 0 ≤ α by omega); omega
    · have := Int.mul_nonneg (show (0 : Int) ≤ d by omega) (show 0 ≤ -α by omega); rw [Int.mul_neg] at this; omega
  · obtain ⟨d, hd⟩ : ∃ d : Nat, (t : Int) - t' = d + 1 := ⟨t - t' - 1, by omega⟩
    rw [hd, Int.add_mul, Int.one_mul] at e
    rcases hα with hα | hα
    · have := Int.mul_nonneg (show (0 : Int) ≤ d by omega) (show 0 ≤ α by omega); omega
    · have := Int.mul_nonneg (show (0 : Int) ≤ d by omega) (show 0 ≤ -α by omega); rw [Int.mul_neg] at this; omega

theorem DW.ge1 {a : List (List Int)} {n j : Nat} {v : Bool} {t m i : Nat} {s : Int} (h : DW a n j v t m i s) : 1 ≤ t → v = true := by
  induction h with
  | nil hj => intro h; omega
  | loop => intro _; rfl
  | step v t m i i' s _ _ _ _ ih => intro ht; rw [ih ht]; rfl
theorem RepP.up {a : List (List Int)} {n : Nat} {x : Nat → Int} {k c : Nat} {g : Int} {Fk F1 Fc : Nat → Int} (h : RepP a n x k c g Fk F1 Fc) : ∀ (R : Nat) {u i : Nat} {w : Int}, u < n → Fk u ≠ -1000000000000000 → Wlk a n u (R * c) i w → Fk i ≠ -1000000000000000 ∧ Fk u + w ≤ Fk i + R * g
  | 0, u, i, w, hu, hf, hw => by
    rw [Nat.zero_mul] at hw
    cases hw with
    | nil _ => exact ⟨hf, by simp⟩
  | R + 1, u, i, w, hu, hf, hw => by
    rw [Nat.add_mul, Nat.one_mul] at hw
    obtain ⟨y, w1, w2, h1, h2, rfl⟩ := Wlk.split (R * c) c hw
    obtain ⟨hy, hle⟩ := RepP.up h R hu hf h1
    obtain ⟨j, w0, hj, hw0, e⟩ := (h.ok.snd y h1.lt.2).resolve_left hy
    obtain ⟨c1, c2⟩ := h.oc.cpl i j _ hj (hw0.trans h2)
    have hi := h2.lt.2
    have hfi : Fk i ≠ -1000000000000000 := fun e => c1 ((h.sup i hi).1 e)
    have := h.sh i hi hfi
    refine ⟨hfi, ?_⟩
    rw [Int.natCast_add, Int.add_mul]; simp only [Int.natCast_one, Int.one_mul]
    omega
theorem RepP.pred {a : List (List Int)} {n : Nat} {x : Nat → Int} {k c : Nat} {g : Int} {Fk F1 Fc : Nat → Int} (h : RepP a n x k c g Fk F1 Fc) {i : Nat} (hi : i < n) (hf : Fk i ≠ -1000000000000000) : ∃ u, u < n ∧ Fk u ≠ -1000000000000000 ∧ Wlk a n u c i (Fk i + g - Fk u) := by
  have hfc : Fc i ≠ -1000000000000000 := fun e => hf ((h.sup i hi).2 e)
  have hs := h.sh i hi hf
  obtain ⟨j, w, hj, hw, e⟩ := (h.oc.snd i hi).resolve_left hfc
  obtain ⟨u, w1, w2, h1, h2, rfl⟩ := Wlk.split k c hw
  obtain ⟨c1, c2⟩ := h.ok.cpl u j w1 hj h1
  have := (h.up 1 h1.lt.2 c1 (by rw [Nat.one_mul]; exact h2)).2
  simp only [Int.natCast_one, Int.one_mul] at this
  refine ⟨u, h1.lt.2, c1, ?_⟩
  rw [show Fk i + g - Fk u = w2 by omega]
  exact h2
/-- a closed walk that grows just as the orbit does -/
theorem RepP.closed {a : List (List Int)} {n : Nat} {x : Nat → Int} {k c : Nat} {g : Int} {Fk F1 Fc : Nat → Int} (h : RepP a n x k c g Fk F1 Fc) : ∃ z q : Nat, 1 ≤ q ∧ z < n ∧ Fk z ≠ -1000000000000000 ∧ Wlk a n z (q * c) z (q * g) := by
  have : ∀ i, ∃ u, (i < n ∧ Fk i ≠ -1000000000000000) → (u < n ∧ Fk u ≠ -1000000000000000) ∧ Wlk a n u c i (Fk i + g - Fk u) := by
    intro i
    by_cases hi : i < n ∧ Fk i ≠ -1000000000000000
    · obtain ⟨u, h1, h2, h3⟩ := h.pred hi.1 hi.2
      exact ⟨u, fun _ => ⟨⟨h1, h2⟩, h3⟩⟩
    · exact ⟨0, fun h => absurd h hi⟩
  obtain ⟨p, hp⟩ := Classical.skolem.1 this
  obtain ⟨i0, hi0, hf0⟩ := h.ne
  let it : Nat → Nat := fun R => Nat.rec i0 (fun _ y => p y) R
  have its : ∀ R, it (R + 1) = p (it R) := fun R => rfl
  have hit : ∀ R, it R < n ∧ Fk (it R) ≠ -1000000000000000 := by
    intro R
    induction R with
    | zero => exact ⟨hi0, hf0⟩
    | succ R ih => rw [its]; exact (hp _ ih).1
  have walk : ∀ b d, Wlk a n (it (b + d)) (d * c) (it b) (Fk (it b) + d * g - Fk (it (b + d))) := by
    intro b d
    induction d with
    | zero =>
      have := Wlk.nil (a := a) (n := n) (hit b).1
      simpa using this
    | succ d ih =>
      have h1 := (hp _ (hit (b + d))).2
      rw [← its] at h1
      have := h1.trans ih
      rw [show c + d * c = (d + 1) * c by rw [Nat.add_mul, Nat.one_mul, Nat.add_comm], show Fk (it (b + d)) + g - Fk (it (b + d + 1)) + (Fk (it b) + (d : Int) * g - Fk (it (b + d))) = Fk (it b) + ((d + 1 : Nat) : Int) * g - Fk (it (b + d + 1)) by rw [Int.natCast_add, Int.add_mul]; simp only [Int.natCast_one, Int.one_mul]; omega] at this
      exact this
  have hdup : ∃ b d, 1 ≤ d ∧ it b = it (b + d) := by
    apply Classical.byContradiction
    intro hno
    have hnd : ((List.range (n + 1)).map it).Nodup := by
      refine List.pairwise_map.2 ((List.nodup_range (n := n + 1)).imp fun {i j} hne e => ?_)
      rcases Nat.lt_or_gt_of_ne hne with hlt | hlt
      · exact hno ⟨i, j - i, by omega, by rw [show i + (j - i) = j by omega]; exact e⟩
      · exact hno ⟨j, i - j, by omega, by rw [show j + (i - j) = i by omega]; exact e.symm⟩
    have := nodup_lt n _ hnd fun v hv => by
      obtain ⟨i, _, rfl⟩ := List.mem_map.1 hv
      exact (hit i).1
    simp at this
    omega
  obtain ⟨b, d, hd, e⟩ := hdup
  refine ⟨it b, d, hd, (hit b).1, (hit b).2, ?_⟩
  have := walk b d
  rw [← e, show Fk (it b) + (d : Int) * g - Fk (it b) = (d : Int) * g by omega] at this
  exact this
theorem Wlk.rep {a : List (List Int)} {n z e : Nat} {s : Int} (h : Wlk a n z e z s) : ∀ y : Nat, Wlk a n z (y * e) z (y * s)
  | 0 => by simpa using Wlk.nil h.lt.1
  | y + 1 => by
    have := (Wlk.rep h y).trans h
    rw [Nat.add_mul, Nat.one_mul, Int.natCast_add, Int.add_mul]
    simpa using this
theorem RepP.growth {a : List (List Int)} {n : Nat} {x : Nat → Int} {k c : Nat} {g : Int} {Fk F1 Fc : Nat → Int} (h : RepP a n x k c g Fk F1 Fc) (hg : g < -1000000 ∨ 1000000 < g) : g = (c : Int) * entA a 0 0 ∧ entA a 0 0 ≠ -1000000000000000 := by
  obtain ⟨z, q, hq, hz, hfz, hw⟩ := h.closed
  have hkc := h.kc
  have hc2 := h.c2
  obtain ⟨v, T, s, hd, e⟩ := hw.dw
  have hsm := hd.sm h.sa
  have hT := hd.lt.2.2
  have hqc : ((q * c : Nat) : Int) = (q : Int) * c := Int.natCast_mul q c
  have hq0 : (0 : Int) < q := by omega
  have cb : (c : Int) ≤ 100 := by omega
  -- some loops there are
  have hT1 : 1 ≤ T := by
    apply Classical.byContradiction
    intro hT0
    have : T = 0 := by omega
    subst this
    simp only [Int.natCast_zero, Int.zero_mul, Int.zero_add, Int.sub_zero] at e hsm
    rw [hqc] at hsm
    rw [← e] at hsm
    rcases hg with hg | hg
    · have h1 : (q : Int) * g ≤ q * (-1000001) := Int.mul_le_mul_of_nonneg_left (by omega) (by omega)
      have h2 : (q : Int) * c ≤ q * 100 := Int.mul_le_mul_of_nonneg_left cb (by omega)
      omega
    · have h1 : (q : Int) * 1000001 ≤ q * g := Int.mul_le_mul_of_nonneg_left (by omega) (by omega)
      have h2 : (q : Int) * c ≤ q * 100 := Int.mul_le_mul_of_nonneg_left cb (by omega)
      omega
  have hv := hd.ge1 hT1
  subst hv
  obtain ⟨e1, he1, hfree, ha⟩ := DW.delN (t := 0) T (by rw [Nat.zero_add]; exact hd) hT1
  -- a loop more in each round
  have up1 : (c : Int) * entA a 0 0 ≤ g := by
    have := (hd.insN ha c).wlk
    rw [show q * c + c = (q + 1) * c by rw [Nat.add_mul, Nat.one_mul]] at this
    have := (h.up (q + 1) hz hfz this).2
    rw [Int.natCast_add, Int.natCast_add, Int.add_mul, Int.add_mul] at this
    simp only [Int.natCast_one, Int.one_mul] at this
    omega
  -- no loops at all, c times
  have up2 : (c : Int) * s ≤ (e1 : Int) * g := by
    have hwf := hfree.wlk
    simp only [Int.natCast_zero, Int.zero_mul, Int.zero_add] at hwf
    have := hwf.rep c
    rw [Nat.mul_comm] at this
    have := (h.up e1 hz hfz this).2
    omega
  have hTe : (T : Int) + e1 = q * c := by rw [← hqc]; omega
  have hse : -(10 * (e1 : Int)) ≤ s ∧ s ≤ 15 * (e1 : Int) := by
    have e2 : ((q * c : Nat) : Int) - T = e1 := by omega
    rw [e2] at hsm
    exact hsm
  have he0 : e1 = 0 := by
    apply Classical.byContradiction
    intro hne
    have he : (0 : Int) < e1 := by omega
    rcases hg with hg | hg
    · have h1 : (e1 : Int) * g ≤ e1 * (-1000001) := Int.mul_le_mul_of_nonneg_left (by omega) (by omega)
      have h2 : (c : Int) * (-(10 * (e1 : Int))) ≤ c * s := Int.mul_le_mul_of_nonneg_left hse.1 (by omega)
      have h3 : (c : Int) * e1 ≤ 100 * e1 := Int.mul_le_mul_of_nonneg_right cb (by omega)
      rw [Int.mul_neg, show (c : Int) * (10 * (e1 : Int)) = 10 * ((c : Int) * e1) by grind] at h2
      omega
    · -- e1 * alpha <= s <= 15 * e1
      have h1 : (q : Int) * (c * entA a 0 0) ≤ q * g := Int.mul_le_mul_of_nonneg_left up1 (by omega)
      have h2 : (q : Int) * (c * entA a 0 0) = T * entA a 0 0 + e1 * entA a 0 0 := by rw [← Int.mul_assoc, ← hTe, Int.add_mul]
      have h3 : (e1 : Int) * entA a 0 0 ≤ e1 * 15 := by omega
      have h4 : entA a 0 0 ≤ 15 := Int.le_of_mul_le_mul_left h3 he
      have h5 : (T : Int) * entA a 0 0 ≤ T * 15 := Int.mul_le_mul_of_nonneg_left h4 (by omega)
      have h6 : (q : Int) * 1000001 ≤ q * g := Int.mul_le_mul_of_nonneg_left (by omega) (by omega)
      have h7 : (q : Int) * c ≤ q * 100 := Int.mul_le_mul_of_nonneg_left cb (by omega)
      omega
  subst he0
  have hs0 : s = 0 := by omega
  refine ⟨?_, ha⟩
  rw [hs0, Int.add_zero, show (T : Int) = q * c by omega, Int.mul_assoc] at e
  exact Int.eq_of_mul_eq_mul_left (by omega) e
theorem RepP.next {a : List (List Int)} {n : Nat} {x : Nat → Int} {k c : Nat} {g : Int} {Fk F1 Fc : Nat → Int} (h : RepP a n x k c g Fk F1 Fc) (hxn : ∀ i, n ≤ i → x i = -1000000000000000) (hg : g < -1000000 ∨ 1000000 < g) : ∀ i, i < n → (Fk i = -1000000000000000 ↔ F1 i = -1000000000000000) ∧ (Fk i ≠ -1000000000000000 → F1 i = Fk i + entA a 0 0) := by
  obtain ⟨eg, ha⟩ := h.growth hg
  have hkc := h.kc
  have hc2 := h.c2
  have hα : 10000 < entA a 0 0 ∨ entA a 0 0 < -10000 := by
    apply Classical.byContradiction
    intro hno
    have h1 : (c : Int) * entA a 0 0 ≤ c * 10000 := Int.mul_le_mul_of_nonneg_left (by omega) (by omega)
    have h2 : (c : Int) * (-10000) ≤ c * entA a 0 0 := Int.mul_le_mul_of_nonneg_left (by omega) (by omega)
    omega
  have xb : ∀ j, x j ≠ -1000000000000000 → -15 ≤ x j ∧ x j ≤ 15 := fun j hj => by
    by_cases hjn : j < n
    · exact (h.sx j hjn).resolve_left hj
    · exact absurd (hxn j (by omega)) hj
  -- a best walk of k arcs meets node 0
  have K : ∀ i, i < n → Fk i ≠ -1000000000000000 → ∃ j t s, x j ≠ -1000000000000000 ∧ DW a n j true t k i s ∧ Fk i = x j + (t * entA a 0 0 + s) := by
    intro i hi hf
    have hfc : Fc i ≠ -1000000000000000 := fun e => hf ((h.sup i hi).2 e)
    have hs := h.sh i hi hf
    obtain ⟨j, w, hj, hw, e⟩ := (h.oc.snd i hi).resolve_left hfc
    obtain ⟨v, T, s, hd, rfl⟩ := hw.dw
    obtain ⟨j', w', hj', hw', e'⟩ := (h.ok.snd i hi).resolve_left hf
    obtain ⟨v', t', s', hd', rfl⟩ := hw'.dw
    have b1 := hd.sm h.sa
    have b2 := hd'.sm h.sa
    have l1 := hd.lt.2.2
    have l2 := hd'.lt.2.2
    have x1 := xb j hj
    have x2 := xb j' hj'
    have hTt : T = t' + c := by
      refine mul_big (α := entA a 0 0) (σ := x j + s) (σ' := x j' + s') ?_ hα (by omega) (by omega)
      rw [Int.natCast_add, Int.add_mul]; omega
    subst hTt
    obtain ⟨m', hm', hd2, _⟩ := DW.delN c hd (by omega)
    obtain rfl : m' = k := by omega
    refine ⟨j, t', s, hj, hd2, ?_⟩
    rw [Int.natCast_add, Int.add_mul] at e
    omega
  intro i hi
  -- behind a walk of k + 1 arcs that meets node 0
  have via : ∀ j t s, x j ≠ -1000000000000000 → DW a n j true t (k + 1) i s → Fk i ≠ -1000000000000000 ∧ x j + (t * entA a 0 0 + s) ≤ Fk i + entA a 0 0 := by
    intro j t s hj hd
    have := (hd.insN ha (c - 1)).wlk
    rw [show k + 1 + (c - 1) = k + c by omega] at this
    obtain ⟨c1, c2⟩ := h.oc.cpl i j _ hj this
    have hf : Fk i ≠ -1000000000000000 := fun e => c1 ((h.sup i hi).1 e)
    have hs := h.sh i hi hf
    refine ⟨hf, ?_⟩
    rw [Int.natCast_add, Int.add_mul, show ((c - 1 : Nat) : Int) = (c : Int) - 1 by omega, Int.sub_mul, Int.one_mul] at c2
    omega
  have low : Fk i ≠ -1000000000000000 → F1 i ≠ -1000000000000000 ∧ Fk i + entA a 0 0 ≤ F1 i := by
    intro hf
    obtain ⟨j, t, s, hj, hd, e⟩ := K i hi hf
    obtain ⟨c1, c2⟩ := h.o1.cpl i j _ hj (hd.ins ha rfl).wlk
    refine ⟨c1, ?_⟩
    rw [Int.natCast_add, Int.add_mul] at c2
    simp only [Int.natCast_one, Int.one_mul] at c2
    omega
  have high : F1 i ≠ -1000000000000000 → Fk i ≠ -1000000000000000 ∧ F1 i ≤ Fk i + entA a 0 0 := by
    intro hf1
    obtain ⟨j, w, hj, hw, e⟩ := (h.o1.snd i hi).resolve_left hf1
    obtain ⟨v, t, s, hd, rfl⟩ := hw.dw
    cases v with
    | true => rw [e]; exact via j t s hj hd
    | false =>
      have x1 := xb j hj
      have ht : t = 0 := by
        apply Classical.byContradiction
        intro hne
        have := hd.ge1 (by omega)
        cases this
      subst ht
      have b1 := hd.sm h.sa
      generalize hm : k + 1 = m at hd
      generalize hvv : false = v at hd
      generalize htt : 0 = t at hd
      cases hd with
      | nil hj => omega
      | loop => cases hvv
      | step v t m0 u _ s0 hd0 hi' hau hne =>
        obtain rfl : m0 = k := by omega
        subst htt
        have hv0 : v = false := by cases v with
          | true => simp at hvv
          | false => rfl
        subst hv0
        have hu := hd0.lt.2.1
        have hwu := hd0.wlk
        obtain ⟨c1, c2⟩ := h.ok.cpl u j _ hj hwu
        obtain ⟨j', t', s', hj', hd', e'⟩ := K u hu c1
        have b0 := hd0.sm h.sa
        have b' := hd'.sm h.sa
        have l' := hd'.lt.2.2
        have x2 := xb j' hj'
        have hau2 := (h.sa i u hi hu hne).resolve_left hau
        have hstep := DW.step true t' m0 u i s' hd' hi hau hne
        simp only [Bool.true_or] at hstep
        obtain ⟨f1, f2⟩ := via j' t' _ hj' hstep
        refine ⟨f1, ?_⟩
        obtain ⟨j3, t3, s3, hj3, hd3, e3⟩ := K i hi f1
        have b3 := hd3.sm h.sa
        have l3 := hd3.lt.2.2
        have x3 := xb j3 hj3
        simp only [Int.natCast_zero, Int.zero_mul, Int.zero_add] at c2 e
        rcases hα with hα | hα
        · have := Int.mul_nonneg (show (0 : Int) ≤ t3 by omega) (show 0 ≤ entA a 0 0 by omega)
          omega
        · exfalso
          have m3 := Int.mul_nonneg (show (0 : Int) ≤ t3 by omega) (show 0 ≤ -entA a 0 0 by omega)
          rw [Int.mul_neg] at m3
          by_cases ht' : t' = 0
          · subst ht'
            simp only [Int.natCast_zero, Int.zero_mul, Int.zero_add] at f2
            omega
          · obtain ⟨d, rfl⟩ : ∃ d, t' = d + 1 := ⟨t' - 1, by omega⟩
            have m1 := Int.mul_nonneg (show (0 : Int) ≤ d by omega) (show 0 ≤ -entA a 0 0 by omega)
            rw [Int.mul_neg] at m1
            rw [Int.natCast_add, Int.add_mul] at e'
            simp only [Int.natCast_one, Int.one_mul] at e'
            omega
  refine ⟨⟨fun e => ?_, fun e => ?_⟩, fun hf => ?_⟩
  · exact Classical.byContradiction fun hne => (high hne).1 e
  · exact Classical.byContradiction fun hne => (low hne).1 e
  · have l := low hf
    have u := high l.1
    omega

def SmM (a : List (List Int)) : Prop := ∀ i j, ¬ (j = 0 ∧ i = 0) → entA a i j = -1000000000000000 ∨ (-10 ≤ entA a i j ∧ entA a i j ≤ 15)
theorem TC_and {α : Type} {m : M α} {P Q : α → Prop} (h : M.TC m P) (g : M.TC m Q) : M.TC m (fun r => P r ∧ Q r) := by
  obtain ⟨r, h1, h2⟩ := h
  obtain ⟨r', g1, g2⟩ := g
  have := M.Conv.unique h1 g1
  subst this
  exact ⟨r, h1, h2, g2⟩
theorem SmM.of {m n : Nat} {f : Nat → Nat → Int} (hf : ∀ i j, ¬ (j = 0 ∧ i = 0) → f i j = -1000000000000000 ∨ (-10 ≤ f i j ∧ f i j ≤ 15)) : SmM (matF m n f) := by
  intro i j hne
  by_cases hi : i < m
  · by_cases hj : j < n
    · rw [entA_matF hi hj]; exact hf i j hne
    · right
      have : entA (matF m n f) i j = 0 := by
        unfold entA matF
        rw [tab_get hi]
        simp only [Option.getD_some]
        rw [List.getElem?_eq_none (by rw [tab_len]; omega)]; rfl
      rw [this]; omega
  · right
    have : entA (matF m n f) i j = 0 := by
      unfold entA matF
      rw [show (tab m fun i => tab n (f i))[i]? = none from List.getElem?_eq_none (by rw [tab_len]; omega)]; rfl
    rw [this]; omega
theorem size_sm {code : List Int} (hc : ByC code) {s : TL01source} (hs : Src code s) (m n : Nat) (hm : 1 ≤ m ∧ m ≤ 10) (hn : 1 ≤ n ∧ n ≤ 10) : M.TC (spec_l02DrawSize s (m : Int) (n : Int)) (fun r => SmM r.1) := by
  unfold spec_l02DrawSize
  rw [hs.code_]
  let J : Int × Int × List (List Int) → Prop := fun r => Src code ⟨code, r.1, r.2.1⟩ ∧ ∃ f, r.2.2 = matF m n f ∧ ∀ i j, f i j = -1000000000000000 ∨ (-10 ≤ f i j ∧ f i j ≤ 15)
  refine M.TC_bindC (spec_l02Bottom_ok (by omega) (by omega)) (M.TC_bind (pick_ok hc hs _ (by simp) (by simp) (fun x => 2 ≤ x ∧ x ≤ 5) (by simp)) fun p hp => ?_)
  refine M.TC_bind (Mid := J) (M.TC_for (fun _ r => J r) _ (by omega) (by omega) ⟨hp.1.mk' rfl, _, rfl, fun _ _ => .inl rfl⟩ (fun i r h1 h2 hI => ?_) (fun _ _ _ hI => hI)) fun r hr => ?_
  · refine M.TC_bind (Mid := J) (M.TC_for (fun _ r => J r) _ (by omega) (by omega) hI (fun j r h3 h4 hI => ?_) (fun _ _ _ hI => hI)) fun r hr => M.TC_ret (.inl ⟨_, rfl, hr⟩)
    obtain ⟨hsr, f, hf, hfi⟩ := hI
    refine M.TC_bind (next_ok hc hsr p.1 (by omega)) fun x hx => ?_
    refine M.TC_bind (Mid := J) (M.TC_ite (fun _ => ?_) (fun _ => M.TC_ret ⟨hx.1.mk' rfl, f, hf, hfi⟩)) fun r hr => M.TC_ret (.inl ⟨_, rfl, hr⟩)
    rw [hf]
    obtain ⟨i', rfl⟩ : ∃ q : Nat, i = (q : Int) := ⟨i.toNat, by omega⟩
    obtain ⟨j', rfl⟩ : ∃ q : Nat, j = (q : Int) := ⟨j.toNat, by omega⟩
    refine M.TC_bindC (idx_tab (by omega)) (M.TC_bind (next_ok hc (hx.1.mk' rfl) 26 (by omega)) fun y hy => ?_)
    refine M.TC_bindC (idx_tab (by omega)) (M.TC_bindC (M.Conv_upd (by rw [tab_len]; omega)) (M.TC_ret ⟨hy.1.mk' rfl, fun p q => if p = i' ∧ q = j' then w64 (y.1 - 10) else f p q, ?_, fun p q => ?_⟩))
    · simp only [Int.toNat_natCast]
      have := matF_set (m := m) (n := n) (i := i') (j := j') (f := f) (g := fun p q => if p = i' ∧ q = j' then w64 (y.1 - 10) else f p q) (fun p q _ _ hpq => by rw [if_neg hpq])
      simpa using this
    · simp only
      split
      · have := hy.2
        rw [w64_eq _ (by omega)]; omega
      · exact hfi p q
  · obtain ⟨hsr, f, hf, hfi⟩ := hr
    refine M.TC_bind (next_ok hc hsr 60 (by omega)) fun x hx => ?_
    rw [hf]
    have hM : SmM (matF m n f) := SmM.of fun i j _ => hfi i j
    refine M.TC_ite (fun _ => ?_) (fun _ => M.TC_ite (fun _ => ?_) (fun _ => M.TC_ite (fun _ => ?_) (fun _ => M.TC_ret hM)))
    · refine M.TC_bindC (idx_tab (i := 0) (by omega)) (M.TC_bind (value_ok hc (hx.1.mk' rfl)) fun y hy => ?_)
      refine M.TC_bindC (idx_tab (i := 0) (by omega)) (M.TC_bindC (M.Conv_upd (i := 0) (by rw [tab_len]; omega)) (M.TC_ret ?_))
      have := matF_set (m := m) (n := n) (i := 0) (j := 0) (f := f) (g := fun p q => if p = 0 ∧ q = 0 then y.1 else f p q) (fun p q _ _ hpq => by rw [if_neg hpq])
      rw [if_pos ⟨rfl, rfl⟩] at this
      rw [this]
      refine SmM.of fun p q hne => ?_
      rw [if_neg (by omega)]
      exact hfi p q
    · refine M.TC_bindC (M.Conv_app (by rw [matF_len]; simp; omega)) (M.TC_ret ?_)
      intro i j hne
      by_cases hi : i < (matF m n f).length
      · have : entA (matF m n f ++ [[]]) i j = entA (matF m n f) i j := by unfold entA; rw [List.getElem?_append_left hi]
        rw [this]; exact hM i j hne
      · right
        have : entA (matF m n f ++ [[]]) i j = 0 := by
          unfold entA
          rw [List.getElem?_append_right (by omega)]
          cases i - (matF m n f).length with
          | zero => simp
          | succ k => simp
        rw [this]; omega
    · exact M.TC_ret fun i j _ => .inr (by simp [entA])
theorem draw7_sm {code : List Int} (hc : ByC code) {s : TL01source} (hs : Src code s) : M.TC (spec_l07Draw s) (fun r => SmM r.1) := by
  unfold spec_l07Draw
  rw [hs.code_]
  refine M.TC_bind (next_ok hc hs 4 (by omega)) fun x hx => M.TC_bind (next_ok hc (hx.1.mk' rfl) 40 (by omega)) fun y hy => M.TC_ite (fun _ => ?_) (fun _ => ?_)
  · refine M.TC_bind (pick_ok hc (hy.1.mk' rfl) _ (by simp) (by simp) inI64 (by simp [inI64])) fun z hz => M.TC_ret fun i j hne => ?_
    right
    have : entA [[z.1]] i j = 0 := by
      unfold entA
      cases i with
      | succ i => simp
      | zero =>
        cases j with
        | succ j => simp
        | zero => exact absurd ⟨rfl, rfl⟩ hne
    rw [this]; omega
  · have e1 : w64 (1 + x.1) = ((x.1.toNat + 1 : Nat) : Int) := by rw [w64_eq _ (by omega)]; omega
    rw [e1]
    exact M.TC_bind (size_sm hc (hy.1.mk' rfl) _ _ (by omega) (by omega)) fun z hz => M.TC_ret hz
theorem Chn.arc {a : List (List Int)} {n : Nat} {x y : List Nat} {u v : Nat} {w : Int} (h : Chn a n (x ++ u :: v :: y) w) : entA a v u ≠ -1000000000000000 := by
  obtain ⟨w1, w2, _, _, h2⟩ := h.split
  cases h2 with
  | cons _ _ _ _ _ ha _ => exact ha
theorem Chn.bd1 {a : List (List Int)} {n : Nat} {B : Int} (hB : Ent a n B) (h0 : 0 ≤ B) : ∀ {l : List Nat} {w : Int}, Chn a n l w → -(B * (l.length : Int)) ≤ w ∧ w ≤ B * (l.length : Int) := by
  intro l w h
  induction h with
  | one v hv => simp; omega
  | cons u v r w hu ha h ih =>
    have := (hB v u (h.lt v (by simp)) hu).resolve_left ha
    simp only [List.length_cons, Int.natCast_add, Int.mul_add, Int.natCast_one, Int.mul_one] at ih ⊢
    omega
theorem within_ok {l : List Nat} {n : Nat} (hl : ∀ x ∈ l, x < n) (hll : l.length ≤ 1000) (hn : 1 ≤ n ∧ n ≤ 10) : M.Conv (spec_l01Within (toI l) ((toI l).length : Int) 0 (w64 ((n : Int) - 1))) true := by
  unfold spec_l01Within
  have ew : w64 ((n : Int) - 1) = (n : Int) - 1 := w64_eq _ (by omega)
  rw [ew]
  apply M.TC.conv
  refine M.TC_bind (M.TC_forE (n := (toI l).length) (fun _ _ => True) (fun _ => False) (by rw [List.length_map]; omega) trivial (fun i s hi _ => ?_)) fun y hy => ?_
  · have hi' : i < l.length := by simpa using hi
    have hx := hl _ (pf_mem hi')
    refine M.TC_bindC (toI_read hi') (M.TC_bindC (spec_l01In_ok _ _ _) (M.TC_ite (fun t => ?_) (fun _ => M.TC_ret (.inl ⟨_, rfl, trivial⟩))))
    exfalso
    simp at t
    omega
  · rcases hy with ⟨s, rfl, _⟩ | ⟨r, _, h⟩
    · exact M.TC_ret (by simp)
    · exact absurd h id
theorem walk_tc {a : List (List Int)} {n : Nat} (hs : Shp a n) (al : a.length = n) (hB : Ent a n 1000000) {l : List Nat} {W : Int} (h : Chn a n l W) (hl : 1 ≤ l.length ∧ l.length ≤ 11) : M.Conv (spec_l03Walk a (toI l)) (W, true) := by
  apply M.TC.conv
  unfold spec_l03Walk
  have hlen : (toI l).length = l.length := by simp
  refine M.TC_bind (M.TC_for (Post := fun y => y = (Sum.inl W : Int ⊕ (Int × Bool))) (fun i s => ∃ k : Nat, i = k ∧ 1 ≤ k ∧ k ≤ l.length ∧ Chn a n (l.take k) s) 0 (by omega) (by omega) ⟨1, rfl, by omega, by omega, ?_⟩ (fun i s h1 h2 hI => ?_) (fun i s hi hI => ?_)) fun y hy => ?_
  · cases l with
    | nil => simp at hl
    | cons v r => exact .one v (h.lt v (by simp))
  · obtain ⟨k, rfl, k1, k2, hc⟩ := hI
    rw [hlen] at h2
    have hk : k < l.length := by omega
    obtain ⟨q, rfl⟩ : ∃ q, k = q + 1 := ⟨k - 1, by omega⟩
    have e1 : l.take (q + 1) = l.take q ++ [pf l q] := by
      rw [List.take_add_one]
      simp [pf, show q < l.length by omega]
    have e2 : l.take (q + 1 + 1) = l.take q ++ [pf l q] ++ [pf l (q + 1)] := by
      rw [List.take_add_one, e1]
      simp [pf, hk]
    have e3 : l = l.take q ++ pf l q :: pf l (q + 1) :: l.drop (q + 1 + 1) := by
      have := (List.take_append_drop (q + 1 + 1) l).symm
      rw [e2] at this
      simpa using this
    have hu : pf l q < n := h.lt _ (pf_mem (by omega))
    have hv : pf l (q + 1) < n := h.lt _ (pf_mem hk)
    have ha : entA a (pf l (q + 1)) (pf l q) ≠ -1000000000000000 := by rw [e3] at h; exact h.arc
    have hb := (hB _ _ hv hu).resolve_left ha
    have hcb := hc.bd1 hB (by omega)
    have hlt : (l.take (q + 1)).length ≤ 11 := by rw [List.length_take]; omega
    have ew : w64 (((q + 1 : Nat) : Int) - 1) = (q : Int) := by rw [w64_eq _ (by omega)]; omega
    rw [ew]
    have hrl := hs.row _ (List.mem_of_getElem? (rowN_get (a := a) (i := pf l (q + 1)) (by omega)))
    have rd := nd_read (l := rowN a (pf l (q + 1))) (i := pf l q) (by omega)
    rw [nd_row (by omega)] at rd
    refine M.TC_bindC (toI_read hk) (M.TC_bindC (get_row (rowN_get (by omega))) (M.TC_bindC (toI_read (by omega)) (M.TC_bindC rd (M.TC_ite (fun t => absurd (eq_of_beq t) ha) (fun _ => M.TC_ret (.inl ⟨_, rfl, q + 1 + 1, by omega, by omega, by omega, ?_⟩))))))
    rw [w64_eq _ (by omega), e2]
    rw [e1] at hc
    exact hc.snoc hv ha
  · obtain ⟨k, rfl, k1, k2, hc⟩ := hI
    have : k = l.length := by omega
    rw [this, List.take_of_length_le (Nat.le_refl _)] at hc
    rw [hc.unique h]
  · subst hy
    exact M.TC_ret rfl
theorem cycle_conv {a : List (List Int)} {n : Nat} (hs : Shp a n) (al : a.length = n) (hB : Ent a n 1000000) {l : List Nat} {W : Int} (h : WC a n l W) : M.Conv (spec_l03Cycle a (toI l)) (W, true) := by
  have hlen := h.len
  have hn := hs.cols
  obtain ⟨j, r, e, hc⟩ := h.cl
  apply M.TC.conv
  unfold spec_l03Cycle
  have hl : (toI l).length = l.length := by simp
  refine M.TC_bindC (x := false) (M.Conv_ite (fun t => by rw [hl] at t; have t := eq_of_beq t; omega) (fun _ => ?_)) (M.TC_ite (fun t => by cases t) (fun _ => ?_))
  · unfold spec_l03Nodes
    rw [al]
    exact M.Conv_bind (M.Conv_bind (within_ok h.cl.lt (by omega) hn) (M.Conv_ret _)) (M.Conv_ret _)
  refine M.TC_bind (M.TC_forE (n := (toI l).length) (fun _ _ => True) (fun _ => False) (by rw [hl]; omega) trivial (fun i s hi _ => ?_)) fun y hy => ?_
  · have hi' : i < l.length := by omega
    refine M.TC_bindC (M.Conv_sub (by omega) (by omega) (by omega)) (M.TC_bindC (toI_read hi') (M.TC_bindC (l01Has_ok _ (by simp; omega)) (M.TC_ite (fun t => ?_) (fun _ => M.TC_ret (.inl ⟨_, rfl, trivial⟩)))))
    exfalso
    simp only [Int.toNat_zero, List.drop_zero, Int.toNat_natCast, Nat.sub_zero, List.any_eq_true, beq_iff_eq] at t
    obtain ⟨v, hv, ev⟩ := t
    rw [← List.map_take] at hv
    obtain ⟨u, hu, rfl⟩ := List.mem_map.1 hv
    have ev : u = pf l i := by omega
    subst ev
    obtain ⟨t, ht, et⟩ := List.getElem_of_mem hu
    rw [List.length_take] at ht
    rw [List.getElem_take] at et
    have hp := List.pairwise_iff_getElem.1 h.nd t i (by omega) hi' (by omega)
    exact hp (by rw [et]; simp [pf, hi'])
  · rcases hy with ⟨s, rfl, _⟩ | ⟨r, _, h⟩
    · have hw := walk_tc hs al hB hc (by simp; omega)
      have h0 : M.Conv (M.idx (toI l) 0) (j : Int) := by rw [e]; exact M.Conv_idx (i := 0) rfl
      refine M.TC_bindC (x := (W, true)) (M.Conv_bind h0 (M.Conv_bind (spec_l01Own_ok (by simp [smI]; omega)) (M.Conv_bind (x := toI (l ++ [j])) ((M.Conv_app (by simp; omega)).of (by simp)) (M.Conv_bind hw (M.Conv_ret _))))) (M.TC_ret rfl)
    · exact absurd h id

theorem shift_conv {a : List (List Int)} {n : Nat} (hs : Shp a n) (al : a.length = n) {r : TRatio} (hsh : Sh a n r.Den r.Num) : M.Conv (spec_l04Shift a r) (matF n n (shF a r.Den r.Num)) := by
  have hn := hs.cols
  unfold spec_l04Shift
  rw [al]
  refine M.Conv_bind (spec_l02Own_ok hs) (M.Conv_bind (x := matF n n (shF a r.Den r.Num)) ?_ (M.Conv_ret _))
  have e0 : a = matF n n (part (shF a r.Den r.Num) (entA a) 0 0) := by rw [part_zero]; have := mat_eq hs; rwa [al] at this
  have hloop : M.Conv (M.forI 0 (n : Int) (fun s => s) (fun i1 => (fun (s1 : (List (List Int))) => M.bind (M.forI 0 (n : Int) (fun s => s) (fun i2 => (fun (s2 : (List (List Int))) => M.bind (M.idx a i1) (fun x4 => M.bind (M.idx x4 i2) (fun x5 => M.bind (M.ite (x5 != (-1000000000000000)) (M.bind (M.idx s2 i1) (fun x6 => M.bind (M.idx a i1) (fun x7 => M.bind (M.idx x7 i2) (fun x8 => M.bind (M.idx x6 i2) (fun _ => M.bind (M.upd x6 i2 (w64 ((w64 (r.Den * x8)) - r.Num))) (fun l1 => M.ret (s2.set i1.toNat l1))))))) (M.ret s2)) (fun (s3 : (List (List Int))) => M.ret (.inl s3)))))) s1) (fun x3 => M.ret (.inl x3)))) (matF n n (part (shF a r.Den r.Num) (entA a) 0 0))) (matF n n (shF a r.Den r.Num)) := by
    refine (Conv_forV (fun i => matF n n (part (shF a r.Den r.Num) (entA a) i 0)) (by omega) fun i hi => ?_).of part_all
    refine M.Conv_bind (Conv_forV (fun j => matF n n (part (shF a r.Den r.Num) (entA a) i j)) (by omega) fun j hj => ?_) ((M.Conv_ret _).of (congrArg Sum.inl part_row))
    have hrl := hs.row _ (List.mem_of_getElem? (rowN_get (a := a) (i := i) (by omega)))
    have g1 : M.Conv (M.idx a (i : Int)) (rowN a i) := get_row (rowN_get (by omega))
    have g2 := nd_read (l := rowN a i) (i := j) (by omega)
    rw [nd_row (by omega)] at g2
    refine M.Conv_bind g1 (M.Conv_bind g2 (M.Conv_bind (x := matF n n (part (shF a r.Den r.Num) (entA a) i (j + 1))) ?_ (M.Conv_ret _)))
    have hv := hsh.val hi hj
    rw [entA_matF hi hj] at hv
    refine M.Conv_ite (fun t => ?_) (fun t => ?_)
    · have t : entA a i j ≠ -1000000000000000 := by simpa using t
      have hv := hv.resolve_left fun h => t h.1
      refine M.Conv_bind (idx_tab hi) (M.Conv_bind g1 (M.Conv_bind g2 (M.Conv_bind (idx_tab hj) (M.Conv_bind (M.Conv_upd (by rw [tab_len]; exact hj)) ((M.Conv_ret _).of ?_)))))
      rw [← part_step]
      have hW := hsh.hW
      congr 2
      rw [w64_eq (r.Den * entA a i j) (by omega), w64_eq _ (by omega), hv.2.1]
    · have t : entA a i j = -1000000000000000 := by simpa using t
      have hv : shF a r.Den r.Num i j = entA a i j := by
        rcases hv with h | h
        · rw [h.1, h.2]
        · exact absurd t h.1
      refine (M.Conv_ret _).of (matF_congr fun p q hp hq => ?_)
      unfold part
      by_cases e : p = i ∧ q = j
      · obtain ⟨rfl, rfl⟩ := e
        rw [hv]
        cases decide (p < p) || (decide (p = p) && decide (q < q)) <;> cases decide (p < p) || (decide (p = p) && decide (q < q + 1)) <;> rfl
      · congr 1
        rw [Bool.eq_iff_iff]; simp; omega
  rw [← e0] at hloop
  exact hloop
theorem ratp_sh {a : List (List Int)} {n L : Nat} {W : Int} {r : TRatio} (hA : Ent a n 1000000) (hL : L ≤ 10) (hW : -10000000 ≤ W ∧ W ≤ 10000000) (hr : RatP W (L : Int) r) : Sh a n r.Den r.Num := by
  have p := hr.pos
  have b := hr.bds (by omega)
  refine ⟨hA, by omega, ?_⟩
  obtain ⟨g, g0, e1, e2⟩ := hr.mul
  obtain ⟨k, hk, rfl⟩ : ∃ k, 0 ≤ k ∧ g = k + 1 := ⟨g - 1, by omega, by omega⟩
  rw [Int.add_mul, Int.one_mul] at e1
  by_cases hn : 0 ≤ r.Num
  · have := Int.mul_nonneg hk hn
    omega
  · have := Int.mul_nonneg hk (show 0 ≤ -r.Num by omega)
    rw [Int.mul_neg] at this
    omega
theorem Chn.unsh {a : List (List Int)} {n : Nat} {L W : Int} (hs : Sh a n L W) {l : List Nat} {w : Int} (h : Chn (matF n n (shF a L W)) n l w) : ∃ w', Chn a n l w' ∧ w = L * w' - W * ((l.length : Int) - 1) := by
  induction h with
  | one v hv => exact ⟨0, .one v hv, by simp⟩
  | cons u v r w hu ha h ih =>
    obtain ⟨w', h1, rfl⟩ := ih
    rcases hs.val (h1.lt v (by simp)) hu with e | e
    · exact absurd e.2 ha
    · refine ⟨_, .cons u v r w' hu e.1 h1, ?_⟩
      rw [e.2.1]
      simp only [List.length_cons, Int.natCast_add, Int.natCast_one]
      grind
theorem Chn.sh {a : List (List Int)} {n : Nat} {L W : Int} (hs : Sh a n L W) {l : List Nat} {w : Int} (h : Chn a n l w) : Chn (matF n n (shF a L W)) n l (L * w - W * ((l.length : Int) - 1)) := by
  induction h with
  | one v hv => simpa using Chn.one v hv
  | cons u v r w hu ha h ih =>
    rcases hs.val (h.lt v (by simp)) hu with e | e
    · exact absurd e.1 ha
    · have := Chn.cons u v r _ hu (by rw [e.2.1]; omega) ih
      rw [e.2.1] at this
      have e2 : L * (entA a v u + w) - W * (((u :: v :: r).length : Int) - 1) = L * entA a v u - W + (L * w - W * (((v :: r).length : Int) - 1)) := by
        simp only [List.length_cons, Int.natCast_add, Int.natCast_one]
        grind
      rw [e2]; exact this
theorem WC.unsh {a : List (List Int)} {n : Nat} {L W : Int} (hs : Sh a n L W) {l : List Nat} {w : Int} (h : WC (matF n n (shF a L W)) n l w) : ∃ w', WC a n l w' ∧ w = L * w' - W * (l.length : Int) := by
  obtain ⟨j, r, e, hc⟩ := h.cl
  obtain ⟨w', h1, h2⟩ := hc.unsh hs
  refine ⟨w', ⟨⟨j, r, e, h1⟩, h.nd, h.fst⟩, ?_⟩
  rw [h2]; simp
theorem WC.sh {a : List (List Int)} {n : Nat} {L W : Int} (hs : Sh a n L W) {l : List Nat} {w : Int} (h : WC a n l w) : WC (matF n n (shF a L W)) n l (L * w - W * (l.length : Int)) := by
  obtain ⟨j, r, e, hc⟩ := h.cl
  have := hc.sh hs
  refine ⟨⟨j, r, e, ?_⟩, h.nd, h.fst⟩
  rw [show L * w - W * (l.length : Int) = L * w - W * (((l ++ [j]).length : Int) - 1) by simp]
  exact this
theorem sign_iff {g D N w W L len : Int} (hg : 0 < g) (e1 : W = g * N) (e2 : L = g * D) : (0 < D * w - N * len ↔ W * len < w * L) ∧ (D * w - N * len = 0 ↔ W * len = w * L) := by
  have k1 : w * L - W * len = g * (D * w - N * len) := by rw [e1, e2]; grind
  constructor
  · constructor
    · intro h
      have := Int.mul_pos hg h
      omega
    · intro h
      apply Int.not_le.1
      intro h2
      have := Int.mul_nonneg (show 0 ≤ g by omega) (show 0 ≤ -(D * w - N * len) by omega)
      rw [Int.mul_neg] at this
      omega
  · constructor
    · intro h
      rw [h, Int.mul_zero] at k1
      omega
    · intro h
      have : g * (D * w - N * len) = g * 0 := by rw [Int.mul_zero]; omega
      exact Int.eq_of_mul_eq_mul_left (by omega) this
theorem MaxC.of {a : List (List Int)} {n : Nat} {l : List Nat} {W : Int} (hw : WC a n l W) (h : ∀ l' w', WC a n l' w' → w' * (l.length : Int) ≤ W * (l'.length : Int)) : MaxC a n l W := by
  refine ⟨hw, fun l' w' hc => Int.not_lt.1 fun hlt => ?_⟩
  obtain ⟨l2, w2, h2, hp, _⟩ := hc.written (P := fun k w => W * (k : Int) < w * (l.length : Int)) (fun k1 k2 w1 w2 h => by
    rw [Int.natCast_add, Int.mul_add, Int.add_mul] at h
    omega) _ rfl hlt
  have := h l2 w2 h2
  omega
theorem toI_inj : ∀ {l l' : List Nat}, toI l = toI l' → l = l'
  | [], [], _ => rfl
  | [], _ :: _, h => by simp at h
  | _ :: _, [], h => by simp at h
  | x :: l, y :: l', h => by
    simp only [List.map_cons, List.cons.injEq] at h
    rw [toI_inj h.2, show x = y by omega]
theorem best_tc {a : List (List Int)} (hm : Mat a a.length) : M.TC (spec_l04Best a) (fun q => (q.2 = false ∧ ∀ l w, ¬ Cl a a.length l w) ∨ (q.2 = true ∧ ∃ l W, q.1 = toI l ∧ MaxC a a.length l W)) := by
  have hrows := hm.rows
  have hA := mat_ent hm
  have hs := hm.shp
  have bw : ∀ l w, WC a a.length l w → (1 ≤ l.length ∧ l.length ≤ 10) ∧ -10000000 ≤ w ∧ w ≤ 10000000 := fun l w h => by
    have h1 := h.len
    have h2 := h.cl.bd hA
    omega
  obtain ⟨K, hK⟩ : ∃ K : List Int → Int, ∀ l W, WC a a.length l W → K (toI l) = W * ((2520 / l.length : Nat) : Int) := by
    have : ∀ s : List Int, ∃ v : Int, ∀ l W, s = toI l → WC a a.length l W → v = W * ((2520 / l.length : Nat) : Int) := by
      intro s
      by_cases h : ∃ l W, s = toI l ∧ WC a a.length l W
      · obtain ⟨l, W, e, hw⟩ := h
        refine ⟨W * ((2520 / l.length : Nat) : Int), fun l' W' e' hw' => ?_⟩
        have el : l = l' := by
          have := e.symm.trans e'
          exact toI_inj this
        subst el
        rw [hw.cl.unique hw'.cl]
      · exact ⟨0, fun l W e hw => absurd ⟨l, W, e, hw⟩ h⟩
    obtain ⟨K, hK⟩ := Classical.skolem.1 this
    exact ⟨K, fun l W hw => hK _ l W rfl hw⟩
  unfold spec_l04Best
  refine M.TC_bind (over_tc hs rfl hA (by omega) (by omega)) fun q hq => ?_
  refine M.TC_bind (Mid := fun (y : List Int ⊕ (List Int × Bool)) => (∃ s, y = .inl s ∧ ∀ l w, ¬ Cl a a.length l w) ∨ ∃ l W, y = .inr (toI l, true) ∧ MaxC a a.length l W) (M.TC_loop (fun s => (s = [] ∧ ∀ l w, ¬ Cl a a.length l w) ∨ ∃ l W, s = toI l ∧ WC a a.length l W) (fun s => (10000000 * 2520 - K s).toNat) q ?_ (fun s hI => ?_)) (fun y hy => ?_)
  · rcases hq with ⟨h1, h2⟩ | ⟨l, w, h1, h2, _⟩
    · refine .inl ⟨h1, fun l w hc => ?_⟩
      obtain ⟨l1, w1, h3, _⟩ := hc.written (P := fun _ _ => True) (fun _ _ _ _ _ => .inl trivial) _ rfl trivial
      have := bw l1 w1 h3
      exact h2 l1 w1 h3 (by omega)
    · exact .inr ⟨l, w, h1, h2⟩
  · rcases hI with ⟨rfl, hno⟩ | ⟨l, W, rfl, hw⟩
    · exact M.TC_ite (fun t => by simp at t) (fun _ => M.TC_ret (.inr ⟨_, rfl, .inl ⟨_, rfl, hno⟩⟩))
    · obtain ⟨b1, b2⟩ := bw l W hw
      have hll : (toI l).length = l.length := by simp
      refine M.TC_ite (fun _ => ?_) (fun t => by have := of_decide_eq_false t; rw [hll] at this; omega)
      obtain ⟨r, r1, _, hr⟩ := ratio_ok (x := W) (d := (l.length : Int)) (by omega) (by omega)
      have hsh := ratp_sh hA b1.2 b2 hr
      have hmean : M.Conv (spec_l04Mean a (toI l)) (r, true) := by
        unfold spec_l04Mean
        rw [hll]
        exact M.Conv_bind (cycle_conv hs rfl hA hw) (M.Conv_ite (fun t => by cases t) (fun _ => M.Conv_bind r1 (M.Conv_ret _)))
      obtain ⟨g, g0, e1, e2⟩ := hr.mul
      have hsc := shift_conv hs rfl hsh
      have hbs : Shp (matF a.length a.length (shF a r.Den r.Num)) a.length := shp_of (by omega) (by omega)
      refine M.TC_bindC hmean (M.TC_bindC hsc (M.TC_bind (over_tc hbs (matF_len _ _ _) hsh.bd (by omega) (by omega)) fun x5 h5 => ?_))
      rcases h5 with ⟨rfl, hnone⟩ | ⟨l2, w2, rfl, h5, h6⟩
      · refine M.TC_ite (fun _ => ?_) (fun t => by simp at t)
        have hmax : MaxC a a.length l W := MaxC.of hw fun l' w' hw' => Int.not_lt.1 fun hlt => hnone l' _ (hw'.sh hsh) ((sign_iff g0 e1 e2).1.2 hlt)
        refine M.TC_bindC hsc (M.TC_bind (over_tc hbs (matF_len _ _ _) hsh.bd (by omega) (by omega)) fun x7 h7 => M.TC_ret (.inr ⟨_, rfl, .inr ?_⟩))
        rcases h7 with ⟨rfl, hnone2⟩ | ⟨l2, w2, rfl, h7, h8⟩
        · exfalso
          refine hnone2 l _ (hw.sh hsh) ?_
          rw [(sign_iff (w := W) (len := (l.length : Int)) g0 e1 e2).2.2 rfl]; omega
        · obtain ⟨w', h9, h10⟩ := h7.unsh hsh
          have h11 := hnone l2 w2 h7
          have h12 := (sign_iff (w := w') (len := (l2.length : Int)) g0 e1 e2).2.1 (by omega)
          refine ⟨l2, w', rfl, h9, fun l' w2' hc => ?_⟩
          have hx := hmax.max l' w2' hc
          have b3 := bw l2 w' h9
          -- the same mean
          refine cross_le (X := W) (D := (l.length : Int)) hx ?_ (by omega) ?_ (by omega)
          · rw [h12]; exact Int.le_refl _
          · obtain ⟨j, rr, ee, _⟩ := hc
            rw [ee]; simp
      · have hlen2 : (toI l2).length = l2.length := by simp
        obtain ⟨w', h9, h10⟩ := h5.unsh hsh
        have b3 := bw l2 w' h9
        refine M.TC_ite (fun t => by have := eq_of_beq t; rw [hlen2] at this; omega) (fun _ => M.TC_ret (.inl ⟨_, rfl, .inr ⟨l2, w', rfl, h9⟩, ?_⟩))
        have hlt := (sign_iff (w := w') (len := (l2.length : Int)) g0 e1 e2).1.1 (by omega)
        rw [hK l W hw, hK l2 w' h9]
        have d1 := div2520 b1.1 b1.2
        have d2 := div2520 b3.1.1 b3.1.2
        have hkey : W * ((2520 / l.length : Nat) : Int) < w' * ((2520 / l2.length : Nat) : Int) := by
          apply Int.not_le.1
          intro hle
          have := key_le hle d1.1 d2.1 (by omega) (by omega)
          omega
        have up : w' * ((2520 / l2.length : Nat) : Int) ≤ 10000000 * 2520 := by
          have := Int.mul_le_mul_of_nonneg_right b3.2.2 (show (0 : Int) ≤ ((2520 / l2.length : Nat) : Int) by omega)
          omega
        omega
  · rcases hy with ⟨s, rfl, hno⟩ | ⟨l, W, rfl, hmc⟩
    · exact M.TC_ret (.inl ⟨rfl, hno⟩)
    · exact M.TC_ret (.inr ⟨rfl, l, W, rfl, hmc⟩)

def critB (b S : List (List Int)) (j i : Nat) : Bool := timesI (entA b i j) (entA S j i) == 0
def critF (b S a : List (List Int)) (i j : Nat) : Int := bif critB b S j i then entA a i j else -1000000000000000
theorem RatP.nopos {a : List (List Int)} {n : Nat} {l : List Nat} {W : Int} {r : TRatio} (hmc : MaxC a n l W) (hr : RatP W (l.length : Int) r) (hsh : Sh a n r.Den r.Num) : NoPos (matF n n (shF a r.Den r.Num)) n := by
  obtain ⟨g, g0, e1, e2⟩ := hr.mul
  refine sh_nopos hsh fun l' w' hc => ?_
  have h1 := hmc.max l' w' hc
  apply Int.not_lt.1
  intro hlt
  have := (sign_iff (D := r.Den) (N := r.Num) (w := w') (len := (l'.length : Int)) g0 e1 e2).1.1 (by rw [Int.mul_comm r.Den]; omega)
  omega
theorem MaxC.same {a : List (List Int)} {n : Nat} {l l' : List Nat} {W W' : Int} (h : MaxC a n l W) (h' : MaxC a n l' W') {r r' : TRatio} (hr : RatP W (l.length : Int) r) (hr' : RatP W' (l'.length : Int) r') : r = r' := by
  have h1 := h.max l' W' h'.wc.cl
  have h2 := h'.max l W h.wc.cl
  have h3 := h.wc.len
  have h4 := h'.wc.len
  exact (hr.eq_iff (by omega) (by omega) hr').2 (by omega)
/-- what both roads reach: the mean, the shifted matrix and its star -/
structure CritP (a : List (List Int)) (l : List Nat) (W : Int) (r : TRatio) (S : List (List Int)) : Prop where
  mc : MaxC a a.length l W
  rp : RatP W (l.length : Int) r
  sh : Sh a a.length r.Den r.Num
  np : NoPos (matF a.length a.length (shF a r.Den r.Num)) a.length
  st : StarM (matF a.length a.length (shF a r.Den r.Num)) a.length S
theorem crit_get {a : List (List Int)} (hm : Mat a a.length) {l : List Nat} {W : Int} (hmc : MaxC a a.length l W) : ∃ r S, CritP a l W r S := by
  have hrows := hm.rows
  have hA := mat_ent hm
  have hlen := hmc.wc.len
  have hb := hmc.wc.cl.bd hA
  obtain ⟨r, _, _, hr⟩ := ratio_ok (x := W) (d := (l.length : Int)) (by omega) (by omega)
  have hsh := ratp_sh hA (by omega) (by omega) hr
  have hp := RatP.nopos hmc hr hsh
  have hbs : Shp (matF a.length a.length (shF a r.Den r.Num)) a.length := shp_of (by omega) (by omega)
  obtain ⟨S, _, hS⟩ := starOf_ok hbs (matF_len _ _ _) hsh.bd (by omega) (by omega) hp
  exact ⟨r, S, hmc, hr, hsh, hp, hS⟩
theorem CritP.ent {a : List (List Int)} {l : List Nat} {W : Int} {r : TRatio} {S : List (List Int)} (hm : Mat a a.length) (h : CritP a l W r S) {i j : Nat} (hi : i < a.length) (hj : j < a.length) :
    (entA (matF a.length a.length (shF a r.Den r.Num)) i j = -1000000000000000 ∨ (-20000000 ≤ entA (matF a.length a.length (shF a r.Den r.Num)) i j ∧ entA (matF a.length a.length (shF a r.Den r.Num)) i j ≤ 20000000)) ∧ (entA S j i = -1000000000000000 ∨ (-200000000 ≤ entA S j i ∧ entA S j i ≤ 200000000)) := by
  have hrows := hm.rows
  refine ⟨h.sh.bd i j hi hj, ?_⟩
  have := h.st.bd h.np h.sh.bd (by omega) (by omega) hj hi
  unfold Bd at this
  omega
theorem critB_iff {b S : List (List Int)} {j i : Nat} (hb : entA b i j = -1000000000000000 ∨ (-20000000 ≤ entA b i j ∧ entA b i j ≤ 20000000)) (hS : entA S j i = -1000000000000000 ∨ (-200000000 ≤ entA S j i ∧ entA S j i ≤ 200000000)) : critB b S j i = true ↔ entA b i j ≠ -1000000000000000 ∧ entA S j i ≠ -1000000000000000 ∧ entA b i j + entA S j i = 0 := by
  unfold critB timesI
  rw [beq_iff_eq]
  cases e : (entA b i j == (-1000000000000000)) || (entA S j i == (-1000000000000000)) with
  | true =>
    simp only [Bool.or_eq_true, beq_iff_eq] at e
    simp only [cond_true]
    omega
  | false =>
    simp only [Bool.or_eq_false_iff, beq_eq_false_iff_ne, ne_eq] at e
    simp only [cond_false]
    rw [w64_eq _ (by omega)]
    exact ⟨fun h => ⟨e.1, e.2, h⟩, fun h => h.2.2⟩
theorem shiftedI_ok {a : List (List Int)} {n : Nat} (hs : Shp a n) (al : a.length = n) {r : TRatio} (hsh : Sh a n r.Den r.Num) : M.Conv (impl_shifted a r) (matF n n (shF a r.Den r.Num)) := by
  have hn := hs.cols
  unfold impl_shifted
  rw [al]
  refine M.Conv_bind ?_ (M.Conv_ret _)
  refine matrixBy_ok (fun i j => impl_shifted_1 i j a r) _ (by omega) (by omega) fun i j hi hj => ?_
  have hrl := hs.row _ (List.mem_of_getElem? (rowN_get (a := a) (i := i) (by omega)))
  have g1 : M.Conv (M.idx a (i : Int)) (rowN a i) := get_row (rowN_get (by omega))
  have g2 := nd_read (l := rowN a i) (i := j) (by omega)
  rw [nd_row (by omega)] at g2
  have hv := hsh.val hi hj
  rw [entA_matF hi hj] at hv
  refine M.Conv_bind g1 (M.Conv_bind g2 (M.Conv_ite (fun t => (M.Conv_ret _).of ?_) (fun t => M.Conv_bind g1 (M.Conv_bind g2 ((M.Conv_ret _).of ?_)))))
  · have t : entA a i j = -1000000000000000 := eq_of_beq t
    rcases hv with h | h
    · exact h.2.symm
    · exact absurd t h.1
  · have t : entA a i j ≠ -1000000000000000 := by simpa using t
    have hv := hv.resolve_left fun h => t h.1
    have hW := hsh.hW
    rw [w64_eq (r.Den * entA a i j) (by omega), w64_eq _ (by omega), hv.2.1]
theorem criticalOf_ok {a : List (List Int)} (hm : Mat a a.length) {l : List Nat} {W : Int} {r : TRatio} {S : List (List Int)} (h : CritP a l W r S) : M.Conv (impl_criticalMatrix a r) (matF a.length a.length (critF (matF a.length a.length (shF a r.Den r.Num)) S a)) := by
  have hrows := hm.rows
  have hs := hm.shp
  have hbs : Shp (matF a.length a.length (shF a r.Den r.Num)) a.length := shp_of (by omega) (by omega)
  obtain ⟨S', s1, s2⟩ := starOf_ok hbs (matF_len _ _ _) h.sh.bd (by omega) (by omega) h.np
  have := s2.unique h.st
  subst this
  unfold impl_criticalMatrix
  refine M.Conv_bind (shiftedI_ok hs rfl h.sh) (M.Conv_bind s1 (M.Conv_bind ?_ (M.Conv_ret _)))
  refine matrixBy_ok (fun i j => impl_criticalMatrix_1 i j (matF a.length a.length (shF a r.Den r.Num)) S' a) _ (by omega) (by omega) fun i j hi hj => ?_
  obtain ⟨e1, e2⟩ := h.ent hm hi hj
  have hci := critB_iff e1 e2
  have rdA : M.Conv (M.idx a (i : Int)) (rowN a i) ∧ M.Conv (M.idx (rowN a i) (j : Int)) (entA a i j) := by
    have hrl := hs.row _ (List.mem_of_getElem? (rowN_get (a := a) (i := i) (by omega)))
    have g2 := nd_read (l := rowN a i) (i := j) (by omega)
    rw [nd_row (by omega)] at g2
    exact ⟨get_row (rowN_get (by omega)), g2⟩
  have rdS : M.Conv (M.idx S' (j : Int)) (rowN S' j) ∧ M.Conv (M.idx (rowN S' j) (i : Int)) (entA S' j i) := by
    have hjS : j < S'.length := by rw [s2.len]; exact hj
    have hrl := s2.shp.row _ (List.mem_of_getElem? (rowN_get hjS))
    have g2 := nd_read (l := rowN S' j) (i := i) (by omega)
    rw [nd_row hjS] at g2
    exact ⟨get_row (rowN_get hjS), g2⟩
  generalize hb : matF a.length a.length (shF a r.Den r.Num) = b at *
  have hbl : b.length = a.length := by rw [← hb]; exact matF_len _ _ _
  have rdB : M.Conv (M.idx b (i : Int)) (rowN b i) ∧ M.Conv (M.idx (rowN b i) (j : Int)) (entA b i j) := by
    have hrl := hbs.row _ (List.mem_of_getElem? (rowN_get (a := b) (i := i) (by omega)))
    have g2 := nd_read (l := rowN b i) (i := j) (by omega)
    rw [nd_row (by omega)] at g2
    exact ⟨get_row (rowN_get (by omega)), g2⟩
  refine M.Conv_bind rdB.1 (M.Conv_bind rdB.2 (M.Conv_bind (Conv_or (v := entA S' j i == (-1000000000000000)) fun _ => M.Conv_bind rdS.1 (M.Conv_bind rdS.2 (M.Conv_ret _))) (M.Conv_bind (Conv_or (v := w64 (entA b i j + entA S' j i) != 0) fun _ => M.Conv_bind rdB.1 (M.Conv_bind rdB.2 (M.Conv_bind rdS.1 (M.Conv_bind rdS.2 (M.Conv_ret _))))) ?_)))
  refine M.Conv_ite (fun t => (M.Conv_ret _).of ?_) (fun t => M.Conv_bind rdA.1 (M.Conv_bind rdA.2 ((M.Conv_ret _).of ?_)))
  · have : critB b S' j i = false := by
      cases hc : critB b S' j i with
      | false => rfl
      | true =>
        obtain ⟨q1, q2, q3⟩ := hci.1 hc
        rw [q3] at t
        simp [q1, q2, w64_eq] at t
    unfold critF; rw [this]; rfl
  · simp only [Bool.or_eq_false_iff, beq_eq_false_iff_ne, ne_eq, bne_eq_false_iff_eq] at t
    have : critB b S' j i = true := hci.2 ⟨t.1.1, t.1.2, by have := t.2; rw [w64_eq _ (by omega)] at this; exact this⟩
    unfold critF; rw [this]; rfl
/-- the arcs that c tells of, in order -/
def arcsR (c : Nat → Nat → Bool) (j i : Nat) : List (Nat × Nat) := ((List.range i).filter (c j)).map fun i => (j, i)
def arcsV (c : Nat → Nat → Bool) (n : Nat) : Nat → List (Nat × Nat)
  | 0 => []
  | j + 1 => arcsV c n j ++ arcsR c j n
def encA (p : Nat × Nat) : List Int := [(p.1 : Int), (p.2 : Int)]
theorem arcsR_succ (c : Nat → Nat → Bool) (j i : Nat) : arcsR c j (i + 1) = arcsR c j i ++ (bif c j i then [(j, i)] else []) := by
  unfold arcsR
  rw [List.range_succ, List.filter_append, List.map_append]
  cases h : c j i <;> simp [h]
theorem arcsR_len (c : Nat → Nat → Bool) (j i : Nat) : (arcsR c j i).length ≤ i := by
  unfold arcsR
  have := List.length_filter_le (c j) (List.range i)
  rw [List.length_range] at this
  rw [List.length_map]; exact this
theorem arcsV_len (c : Nat → Nat → Bool) (n : Nat) : ∀ j, (arcsV c n j).length ≤ j * n
  | 0 => by simp [arcsV]
  | j + 1 => by
    have := arcsV_len c n j
    have := arcsR_len c j n
    rw [arcsV, List.length_append, Nat.add_mul, Nat.one_mul]; omega
theorem arcsV_mem (c : Nat → Nat → Bool) (n : Nat) : ∀ k p, p ∈ arcsV c n k ↔ p.1 < k ∧ p.2 < n ∧ c p.1 p.2 = true
  | 0, p => by simp [arcsV]
  | k + 1, p => by
    rw [arcsV, List.mem_append, arcsV_mem c n k p]
    unfold arcsR
    simp only [List.mem_map, List.mem_filter, List.mem_range]
    constructor
    · rintro (⟨h1, h2⟩ | ⟨i, ⟨h1, h2⟩, rfl⟩)
      · exact ⟨by omega, h2⟩
      · exact ⟨by simp only; omega, h1, h2⟩
    · rintro ⟨h1, h2, h3⟩
      by_cases e : p.1 = k
      · exact .inr ⟨p.2, ⟨h2, by rw [← e]; exact h3⟩, by rw [← e]⟩
      · exact .inl ⟨by omega, h2, h3⟩
def rowV (c : Nat → Nat → Bool) (n j : Nat) : Nat → List (Nat × Nat)
  | 0 => arcsV c n j
  | i + 1 => rowV c n j i ++ (bif c j i then [(j, i)] else [])
theorem rowV_eq (c : Nat → Nat → Bool) (n j : Nat) : ∀ i, rowV c n j i = arcsV c n j ++ arcsR c j i
  | 0 => by simp [rowV, arcsR]
  | i + 1 => by rw [rowV, rowV_eq c n j i, arcsR_succ, List.append_assoc]
theorem arcs_loop {b S : List (List Int)} {n : Nat} (hb : Shp b n) (bl : b.length = n) (hS : Shp S n) (Sl : S.length = n) :
    M.Conv (M.forI 0 (n : Int) (fun s => s) (fun i1 => (fun (s1 : (List (List Int))) => M.bind (M.forI 0 (n : Int) (fun s => s) (fun i2 => (fun (s2 : (List (List Int))) => M.bind (M.idx b i2) (fun x7 => M.bind (M.idx x7 i1) (fun x8 => M.bind (M.idx S i1) (fun x9 => M.bind (M.idx x9 i2) (fun x10 => M.bind (spec_l01Times x8 x10) (fun x11 => M.bind (M.ite (x11 == 0) (M.bind (M.app s2 [([i1, i2] : List Int)]) (fun l1 => M.ret l1)) (M.ret s2)) (fun (s3 : (List (List Int))) => M.ret (.inl s3))))))))) s1) (fun x6 => M.ret (.inl x6)))) ([] : List (List Int))) ((arcsV (critB b S) n n).map encA) := by
  have hn := hb.cols
  refine Conv_forV (fun j => (arcsV (critB b S) n j).map encA) (by omega) fun j hj => ?_
  refine M.Conv_bind (x := (rowV (critB b S) n j n).map encA) (Conv_forV (fun i => (rowV (critB b S) n j i).map encA) (by omega) fun i hi => ?_) ((M.Conv_ret _).of (by rw [rowV_eq]; rfl))
  have rdS : M.Conv (M.idx S (j : Int)) (rowN S j) ∧ M.Conv (M.idx (rowN S j) (i : Int)) (entA S j i) := by
    have hjS : j < S.length := by rw [Sl]; exact hj
    have hrl := hS.row _ (List.mem_of_getElem? (rowN_get hjS))
    have g2 := nd_read (l := rowN S j) (i := i) (by omega)
    rw [nd_row hjS] at g2
    exact ⟨get_row (rowN_get hjS), g2⟩
  have rdB : M.Conv (M.idx b (i : Int)) (rowN b i) ∧ M.Conv (M.idx (rowN b i) (j : Int)) (entA b i j) := by
    have hib : i < b.length := by rw [bl]; exact hi
    have hrl := hb.row _ (List.mem_of_getElem? (rowN_get hib))
    have g2 := nd_read (l := rowN b i) (i := j) (by omega)
    rw [nd_row hib] at g2
    exact ⟨get_row (rowN_get hib), g2⟩
  have hl1 := arcsV_len (critB b S) n j
  have hl2 := arcsR_len (critB b S) j i
  have hjn : j * n ≤ 100 := Nat.mul_le_mul (show j ≤ 10 by omega) (show n ≤ 10 by omega)
  have hl3 : ((rowV (critB b S) n j i).map encA).length ≤ 200 := by rw [List.length_map, rowV_eq, List.length_append]; omega
  refine M.Conv_bind rdB.1 (M.Conv_bind rdB.2 (M.Conv_bind rdS.1 (M.Conv_bind rdS.2 (M.Conv_bind (spec_l01Times_ok _ _) (M.Conv_bind (x := (rowV (critB b S) n j (i + 1)).map encA) ?_ (M.Conv_ret _))))))
  rw [rowV]
  refine M.Conv_ite (fun t => M.Conv_bind (M.Conv_app (by rw [List.length_cons, List.length_nil]; omega)) ((M.Conv_ret _).of ?_)) (fun t => (M.Conv_ret _).of ?_)
  · rw [show critB b S j i = true from t]; simp [encA]
  · rw [show critB b S j i = false from t]; simp
theorem arcs_tc {a : List (List Int)} (hm : Mat a a.length) (hex : ∃ l w, Cl a a.length l w) : ∃ l W r S, CritP a l W r S ∧ M.Conv (spec_l06Arcs a) ((arcsV (critB (matF a.length a.length (shF a r.Den r.Num)) S) a.length a.length).map encA) := by
  have hrows := hm.rows
  have hs := hm.shp
  have hA := mat_ent hm
  obtain ⟨q, q1, q2⟩ := best_tc hm
  obtain ⟨l0, w0, h0⟩ := hex
  obtain ⟨hq, l, W, eq1, hmc⟩ := q2.resolve_left fun h => h.2 l0 w0 h0
  obtain ⟨r, S, h⟩ := crit_get hm hmc
  have hlen := hmc.wc.len
  have hb := hmc.wc.cl.bd hA
  refine ⟨l, W, r, S, h, ?_⟩
  have hmean : M.Conv (spec_l04Mean a q.1) (r, true) := by
    obtain ⟨r', r1, _, hr'⟩ := ratio_ok (x := W) (d := (l.length : Int)) (by omega) (by omega)
    have e := hmc.same hmc hr' h.rp
    rw [eq1, ← e]
    unfold spec_l04Mean
    exact M.Conv_bind (cycle_conv hs rfl hA hmc.wc) (M.Conv_ite (fun t => by cases t) (fun _ => M.Conv_bind (x := r') (by rw [List.length_map]; exact r1) (M.Conv_ret _)))
  have hsc := shift_conv hs rfl h.sh
  have hstar : ∃ bb, M.Conv (spec_l03Star (matF a.length a.length (shF a r.Den r.Num))) (S, bb) := by
    have hbs : Shp (matF a.length a.length (shF a r.Den r.Num)) a.length := shp_of (by omega) (by omega)
    obtain ⟨S', bb, s1, s2⟩ := star_pow hbs (matF_len _ _ _) h.sh.bd (by omega) (by omega)
    have := (s2.star h.np).unique h.st
    rw [← this]
    exact ⟨bb, s1⟩
  obtain ⟨bb, hstar⟩ := hstar
  have hloop := arcs_loop (b := matF a.length a.length (shF a r.Den r.Num)) (S := S) (n := a.length) (shp_of (by omega) (by omega)) (matF_len _ _ _) h.st.shp h.st.len
  unfold spec_l06Arcs
  exact M.Conv_bind q1 (M.Conv_bind hmean (M.Conv_bind hsc (M.Conv_bind hstar (M.Conv_bind hloop (M.Conv_ret _)))))

theorem l06_loop {a : List (List Int)} {n : Nat} (hs : Shp a n) (al : a.length = n) {L : List (Nat × Nat)} (hL : ∀ p ∈ L, p.1 < n ∧ p.2 < n) (hll : L.length ≤ 1000) :
    M.Conv (M.forI 0 ((L.map encA).length : Int) (fun s => s) (fun i1 => (fun (s1 : (List (List Int))) => M.bind (M.idx (L.map encA) i1) (fun x4 => M.bind (M.idx x4 1) (fun x5 => M.bind (M.idx (L.map encA) i1) (fun x6 => M.bind (M.idx x6 0) (fun x7 => M.bind (M.idx s1 x5) (fun x8 => M.bind (M.idx a x5) (fun x9 => M.bind (M.idx x9 x7) (fun x10 => M.bind (M.idx x8 x7) (fun _ => M.bind (M.upd x8 x7 x10) (fun l1 => M.ret (.inl (s1.set x5.toNat l1))))))))))))) (matF n n fun _ _ => -1000000000000000)) (matF n n fun i j => if (j, i) ∈ L then entA a i j else -1000000000000000) := by
  have hn := hs.cols
  have e0 : (matF n n fun _ _ => (-1000000000000000 : Int)) = matF n n fun i j => if (j, i) ∈ L.take 0 then entA a i j else -1000000000000000 := matF_congr fun i j _ _ => by simp
  have e1 : (matF n n fun i j => if (j, i) ∈ L then entA a i j else -1000000000000000) = matF n n fun i j => if (j, i) ∈ L.take L.length then entA a i j else -1000000000000000 := by rw [List.take_length]
  rw [e0, e1, List.length_map]
  refine Conv_forV (fun k => matF n n fun i j => if (j, i) ∈ L.take k then entA a i j else -1000000000000000) (by omega) fun k hk => ?_
  obtain ⟨h1, h2⟩ := hL _ (List.getElem_mem hk)
  have ht : L.take (k + 1) = L.take k ++ [L[k]] := by rw [List.take_add_one]; simp [hk]
  have hp : M.Conv (M.idx (L.map encA) (k : Int)) (encA L[k]) := M.Conv_idx (by simp [hk])
  generalize L[k] = p at *
  have hrl := hs.row _ (List.mem_of_getElem? (rowN_get (a := a) (i := p.2) (by omega)))
  have g1 : M.Conv (M.idx a ((p.2 : Nat) : Int)) (rowN a p.2) := get_row (rowN_get (by omega))
  have g2 := nd_read (l := rowN a p.2) (i := p.1) (by omega)
  rw [nd_row (by omega)] at g2
  refine M.Conv_bind hp (M.Conv_bind (x := (p.2 : Int)) (M.Conv_idx (i := 1) rfl) (M.Conv_bind hp (M.Conv_bind (x := (p.1 : Int)) (M.Conv_idx (i := 0) rfl) (M.Conv_bind (idx_tab h2) (M.Conv_bind g1 (M.Conv_bind g2 (M.Conv_bind (idx_tab h1) (M.Conv_bind (M.Conv_upd (by rw [tab_len]; exact h1)) ((M.Conv_ret _).of (congrArg Sum.inl ?_))))))))))
  have := matF_set (m := n) (n := n) (i := p.2) (j := p.1) (f := fun i j => if (j, i) ∈ L.take k then entA a i j else -1000000000000000) (g := fun i j => if (j, i) ∈ L.take (k + 1) then entA a i j else -1000000000000000) (fun i j _ _ hne => by
    rw [ht]
    have : (j, i) ≠ p := fun e => hne (by rw [← e]; exact ⟨rfl, rfl⟩)
    simp [this])
  simp only [Int.toNat_natCast]
  rw [← this]
  congr 2
  rw [ht, if_pos (by simp)]
theorem critical_both {a : List (List Int)} (sa : smII a) (hs : sqB a = true) : ∃ w, M.Conv (impl_criticalOf a) w ∧ ((w.2 = 4 ∧ (∀ l w, ¬ Cl a a.length l w) ∧ M.Conv (spec_l06Code a) 4) ∨ (w.2 = 0 ∧ M.Conv (spec_l06Code a) 0 ∧ M.Conv (spec_l06Matrix a) w.1 ∧ ∃ l W r S, CritP a l W r S ∧ w.1 = matF a.length a.length (critF (matF a.length a.length (shF a r.Den r.Num)) S a) ∧ M.Conv (spec_l06Arcs a) ((arcsV (critB (matF a.length a.length (shF a r.Den r.Num)) S) a.length a.length).map encA))) := by
  have hm := sq_mat hs
  have hrows := hm.rows
  obtain ⟨x, x1, x2⟩ := cycleMean_tc hm
  obtain ⟨q, q1, q2⟩ := best_tc hm
  have code : ∀ b : Bool, q.2 = b → M.Conv (spec_l06Code a) (bif b then 0 else 4) := fun b hb => by
    unfold spec_l06Code
    refine M.Conv_bind (spec_l02Square_ok sa) (M.Conv_ite (fun t => by rw [hs] at t; cases t) (fun _ => M.Conv_bind q1 (M.Conv_ite (fun t => (M.Conv_ret _).of ?_) (fun t => (M.Conv_ret _).of ?_))))
    · cases b with
      | true => rw [hb] at t; cases t
      | false => rfl
    · cases b with
      | true => rfl
      | false => rw [hb] at t; cases t
  rcases x2 with ⟨h1, hno⟩ | ⟨h1, l', W', hmc', hr'⟩
  · refine ⟨([], 4), M.Conv_bind (impl_isSquare_ok sa) (M.Conv_ite (fun t => by rw [hs] at t; cases t) (fun _ => M.Conv_bind x1 (M.Conv_ite (fun _ => M.Conv_ret _) (fun t => by rw [h1] at t; cases t)))), .inl ⟨rfl, hno, ?_⟩⟩
    have : q.2 = false := by
      rcases q2 with h | ⟨_, l, W, _, h⟩
      · exact h.1
      · exact absurd h.wc.cl (hno l W)
    exact code false this
  · have hq : q.2 = true := by
      rcases q2 with ⟨_, h⟩ | h
      · exact absurd hmc'.wc.cl (h l' W')
      · exact h.1
    obtain ⟨l, W, r, S, h, harc⟩ := arcs_tc hm ⟨l', W', hmc'.wc.cl⟩
    have er : x.1 = r := hmc'.same h.mc hr' h.rp
    refine ⟨(matF a.length a.length (critF (matF a.length a.length (shF a r.Den r.Num)) S a), 0), M.Conv_bind (impl_isSquare_ok sa) (M.Conv_ite (fun t => by rw [hs] at t; cases t) (fun _ => M.Conv_bind x1 (M.Conv_ite (fun t => by rw [h1] at t; cases t) (fun _ => M.Conv_bind (by rw [er]; exact criticalOf_ok hm h) (M.Conv_ret _))))), .inr ⟨rfl, code true hq, ?_, l, W, r, S, h, rfl, harc⟩⟩
    have hent := fun i j (hi : i < a.length) (hj : j < a.length) => h.ent hm hi hj
    have hlen := arcsV_len (critB (matF a.length a.length (shF a r.Den r.Num)) S) a.length a.length
    have hnn : a.length * a.length ≤ 100 := Nat.mul_le_mul (show a.length ≤ 10 by omega) (show a.length ≤ 10 by omega)
    have hloop := l06_loop hm.shp rfl (L := arcsV (critB (matF a.length a.length (shF a r.Den r.Num)) S) a.length a.length) (fun p hp => by
      have := (arcsV_mem _ _ _ p).1 hp
      exact ⟨this.1, this.2.1⟩) (by omega)
    unfold spec_l06Matrix
    refine M.Conv_bind (spec_l02Bottom_ok (by omega) (by omega)) (M.Conv_bind harc (M.Conv_bind hloop ((M.Conv_ret _).of (matF_congr fun i j hi hj => ?_))))
    unfold critF
    by_cases c : critB (matF a.length a.length (shF a r.Den r.Num)) S j i = true
    · rw [if_pos ((arcsV_mem _ _ _ _).2 ⟨hj, hi, c⟩), c]; rfl
    · rw [if_neg (fun hmem => c ((arcsV_mem _ _ _ _).1 hmem).2.2)]
      cases h2 : critB (matF a.length a.length (shF a r.Den r.Num)) S j i with
      | true => exact absurd h2 c
      | false => rfl

theorem bmset {n i j : Nat} {f g : Nat → Nat → Bool} {v : Bool} (hv : v = g i j) (e : ∀ p q, p < n → q < n → ¬ (p = i ∧ q = j) → f p q = g p q) : (bmF n f).set i ((tab n (f i)).set j v) = bmF n g := by
  by_cases hi : i < n
  · exact tab_set (tab_set hv fun q hq hne => e i q hi hq (by omega)) fun p hp hne => tab_congr fun q hq => e p q hp hq (by omega)
  · unfold bmF
    rw [List.set_eq_of_length_le (by rw [tab_len]; omega)]
    exact tab_congr fun p hp => tab_congr fun q hq => e p q hp hq (by omega)
def arcB (a : List (List Int)) (p q : Nat) : Bool := p == q || entA a q p != (-1000000000000000)
def warB (r : Nat → Nat → Bool) (k p q : Nat) : Bool := r p q || (r p k && r k q)
def mixB (f g : Nat → Nat → Bool) (i j p q : Nat) : Bool := bif decide (p < i) || (decide (p = i) && decide (q < j)) then g p q else f p q
theorem mix_step {n i j : Nat} {f g : Nat → Nat → Bool} {v : Bool} (hv : v = g i j) : (bmF n (mixB f g i j)).set i ((tab n (mixB f g i j i)).set j v) = bmF n (mixB f g i (j + 1)) := by
  refine bmset (by rw [hv]; simp [mixB]) fun p q _ _ h => ?_
  unfold mixB
  congr 1
  rw [Bool.eq_iff_iff]; simp; omega
theorem mix_row {n i : Nat} {f g : Nat → Nat → Bool} : bmF n (mixB f g i n) = bmF n (mixB f g (i + 1) 0) := by
  refine tab_congr fun p _ => tab_congr fun q hq => ?_
  unfold mixB
  congr 1
  rw [Bool.eq_iff_iff]; simp; omega
theorem mix_zero {n : Nat} {f g : Nat → Nat → Bool} : bmF n (mixB f g 0 0) = bmF n f := tab_congr fun p _ => tab_congr fun q _ => by simp [mixB]
theorem mix_all {n : Nat} {f g : Nat → Nat → Bool} : bmF n (mixB f g n 0) = bmF n g := tab_congr fun p hp => tab_congr fun q _ => by simp [mixB, hp]
def warN (a : List (List Int)) : Nat → Nat → Nat → Bool
  | 0 => arcB a
  | k + 1 => warB (warN a k) k
theorem warN_ok {a : List (List Int)} {n : Nat} : ∀ k, k ≤ n → (∀ v, warN a k v v = true) ∧ (∀ v i, v < n → i < n → arcE a v i → warN a k v i = true) ∧ (∀ v i, v < n → i < n → warN a k v i = true → Rch (arcE a) n v i) ∧ ∀ m v i, m < k → warN a k v m = true → warN a k m i = true → warN a k v i = true
  | 0, _ => ⟨fun v => by simp [warN, arcB], fun v i _ _ h => by
      unfold arcE at h
      simp [warN, arcB, h], fun v i hv hi h => by
      simp only [warN, arcB, Bool.or_eq_true, beq_iff_eq, bne_iff_ne, ne_eq] at h
      rcases h with rfl | h
      · exact .refl _ _ _
      · exact (Rch.refl _ _ _).step hv hi h, fun m v i hm => by omega⟩
  | k + 1, hk => by
    obtain ⟨h1, h2, h3, h4⟩ := warN_ok (a := a) (n := n) k (by omega)
    refine ⟨fun v => by simp [warN, warB, h1], fun v i hv hi h => by simp [warN, warB, h2 v i hv hi h], fun v i hv hi h => ?_, fun m v i hm ha hb => ?_⟩
    · simp only [warN, warB, Bool.or_eq_true, Bool.and_eq_true] at h
      rcases h with h | ⟨h, h'⟩
      · exact h3 v i hv hi h
      · exact (h3 v k hv (by omega) h).trans (h3 k i (by omega) hi h')
    · simp only [warN, warB, Bool.or_eq_true, Bool.and_eq_true] at ha hb ⊢
      have c1 := h4
      by_cases e : m = k
      · subst e
        have ha : warN a m v m = true := ha.elim id fun h => h.1
        have hb : warN a m m i = true := hb.elim id fun h => h.2
        exact .inr ⟨ha, hb⟩
      · have hm' : m < k := by omega
        rcases ha with ha | ⟨ha, ha'⟩
        · rcases hb with hb | ⟨hb, hb'⟩
          · exact .inl (h4 m v i hm' ha hb)
          · exact .inr ⟨h4 m v k hm' ha hb, hb'⟩
        · rcases hb with hb | ⟨hb, hb'⟩
          · exact .inr ⟨ha, h4 m k i hm' ha' hb⟩
          · exact .inr ⟨ha, hb'⟩
theorem war_reach {a : List (List Int)} {n v i : Nat} (hv : v < n) (hi : i < n) : warN a n v i = true ↔ Rch (arcE a) n v i := by
  obtain ⟨h1, h2, h3, h4⟩ := warN_ok (a := a) (n := n) n (Nat.le_refl _)
  refine ⟨h3 v i hv hi, fun ⟨k, h⟩ => ?_⟩
  induction h with
  | nil => exact h1 v
  | step k j i hj hjn hin he ih => exact h4 j v i hjn (ih hjn ⟨k, hj⟩) (h2 j i hjn hin he)
theorem war_keep {a : List (List Int)} {n k : Nat} (hk : k < n) {i j p q : Nat} (h : p = k ∨ q = k) : mixB (warN a k) (warB (warN a k) k) i j p q = warN a k p q := by
  have h1 := (warN_ok (a := a) (n := n) k (by omega)).1 k
  unfold mixB
  have : warB (warN a k) k p q = warN a k p q := by
    unfold warB
    rcases h with rfl | rfl
    · rw [h1]; simp
    · rw [h1]; simp
  rw [this]
  cases decide (p < i) || (decide (p = i) && decide (q < j)) <;> rfl
theorem mix_ne {f g : Nat → Nat → Bool} {i j p q : Nat} (h : ¬ (p < i ∨ (p = i ∧ q < j))) : mixB f g i j p q = f p q := by
  unfold mixB
  rw [show (decide (p < i) || (decide (p = i) && decide (q < j))) = false by rw [Bool.eq_false_iff]; simp; omega]; rfl
theorem reaching_ok {a : List (List Int)} (hs : Shp a a.length) : M.Conv (impl_reaching a) (bmF a.length (warN a a.length)) := by
  have hn := hs.rows
  have rdA : ∀ i j : Nat, i < a.length → j < a.length → M.Conv (M.idx a (i : Int)) (rowN a i) ∧ M.Conv (M.idx (rowN a i) (j : Int)) (entA a i j) := fun i j hi hj => by
    have hrl := hs.row _ (List.mem_of_getElem? (rowN_get (a := a) (i := i) hi))
    have g2 := nd_read (l := rowN a i) (i := j) (by omega)
    rw [nd_row hi] at g2
    exact ⟨get_row (rowN_get hi), g2⟩
  unfold impl_reaching
  refine M.Conv_bind ((M.Conv_make (by omega) (by omega)).of (r' := tab a.length fun p => bif decide (p < 0) then tab a.length (arcB a p) else []) (by rw [Int.toNat_natCast, tab_rep]; exact tab_congr fun i _ => by simp)) ?_
  rw [tab_len]
  refine M.Conv_bind (x := bmF a.length (arcB a)) ((Conv_forV (fun i => tab a.length fun p => bif decide (p < i) then tab a.length (arcB a p) else []) (by omega) fun i hi => ?_).of (tab_congr fun p hp => by rw [decide_eq_true hp]; rfl)) ?_
  · refine M.Conv_bind ((M.Conv_make (by omega) (by omega)).of (r' := tab a.length fun _ => false) (by rw [Int.toNat_natCast, tab_rep])) ?_
    let st : Nat → List (List Bool) := fun j => tab a.length fun p => if p = i then tab a.length (fun q => bif decide (q < j) then arcB a i q else false) else (bif decide (p < i) then tab a.length (arcB a p) else [])
    refine M.Conv_bind (idx_tab hi) (M.Conv_bind (x := st 0) ((M.Conv_upd (by rw [tab_len]; exact hi)).of (tab_set (by rw [if_pos rfl]; exact tab_congr fun q _ => by simp) fun p _ hp => by rw [if_neg hp])) (M.Conv_bind (x := st a.length) (Conv_forV st (by omega) fun j hj => ?_) ((M.Conv_ret _).of (congrArg Sum.inl (tab_congr fun p hp => ?_)))))
    · have hrow : M.Conv (M.idx (st j) (i : Int)) (tab a.length fun q => bif decide (q < j) then arcB a i q else false) := (idx_tab hi).of (if_pos rfl)
      have hset : ∀ v, v = arcB a i j → (st j).set i ((tab a.length fun q => bif decide (q < j) then arcB a i q else false).set j v) = st (j + 1) := fun v hv => by
        refine tab_set ?_ fun p _ hp => by simp only [if_neg hp]
        rw [if_pos rfl]
        refine tab_set (by simp [hv]) fun q _ hq => ?_
        congr 1
        rw [Bool.eq_iff_iff]; simp; omega
      refine M.Conv_bind (x := st (j + 1)) (M.Conv_bind hrow (M.Conv_ite (fun t => ?_) (fun t => ?_))) (M.Conv_ret _)
      · have e : i = j := by have := eq_of_beq t; omega
        exact M.Conv_bind (idx_tab hj) (M.Conv_bind (M.Conv_upd (by rw [tab_len]; exact hj)) ((M.Conv_ret _).of (hset _ (by simp [arcB, e]))))
      · have e : i ≠ j := fun e => by rw [e] at t; simp at t
        exact M.Conv_bind (rdA j i hj hi).1 (M.Conv_bind (rdA j i hj hi).2 (M.Conv_bind (idx_tab hj) (M.Conv_bind (M.Conv_upd (by rw [tab_len]; exact hj)) ((M.Conv_ret _).of (hset _ (by simp [arcB, e]))))))
    · by_cases e : p = i
      · rw [if_pos e, e, show decide (i < i + 1) = true by simp]
        exact tab_congr fun q hq => by rw [decide_eq_true hq]; rfl
      · rw [if_neg e]
        congr 1
        rw [Bool.eq_iff_iff]; simp; omega
  · refine M.Conv_bind (x := bmF a.length (warN a a.length)) (Conv_forV (fun k => bmF a.length (warN a k)) (by omega) fun k hk => ?_) (M.Conv_ret _)
    have e0 : bmF a.length (warN a k) = bmF a.length (mixB (warN a k) (warN a (k + 1)) 0 0) := mix_zero.symm
    rw [e0]
    refine M.Conv_bind ((Conv_forV (fun i => bmF a.length (mixB (warN a k) (warN a (k + 1)) i 0)) (by omega) fun i hi => ?_).of mix_all) (M.Conv_ret _)
    refine M.Conv_bind (Conv_forV (fun j => bmF a.length (mixB (warN a k) (warN a (k + 1)) i j)) (by omega) fun j hj => ?_) ((M.Conv_ret _).of (congrArg Sum.inl mix_row))
    have k1 : mixB (warN a k) (warN a (k + 1)) i j i j = warN a k i j := mix_ne (by omega)
    have k2 : mixB (warN a k) (warN a (k + 1)) i j i k = warN a k i k := war_keep hk (.inr rfl)
    have k3 : mixB (warN a k) (warN a (k + 1)) i j k j = warN a k k j := war_keep hk (.inl rfl)
    have upd : ∀ v, v = warN a (k + 1) i j → M.Conv (M.upd (tab a.length (mixB (warN a k) (warN a (k + 1)) i j i)) (j : Int) v) ((tab a.length (mixB (warN a k) (warN a (k + 1)) i j i)).set j v) ∧ (bmF a.length (mixB (warN a k) (warN a (k + 1)) i j)).set ((i : Int)).toNat ((tab a.length (mixB (warN a k) (warN a (k + 1)) i j i)).set j v) = bmF a.length (mixB (warN a k) (warN a (k + 1)) i (j + 1)) := fun v hv => ⟨M.Conv_upd (by rw [tab_len]; exact hj), by rw [Int.toNat_natCast]; exact mix_step hv⟩
    refine M.Conv_bind (x := bmF a.length (mixB (warN a k) (warN a (k + 1)) i (j + 1))) (M.Conv_bind (idx_tab hk) (M.Conv_bind (idx_tab hi) (M.Conv_bind (idx_tab hi) (M.Conv_bind ((idx_tab hj).of k1) (M.Conv_ite (fun t => ?_) (fun t => M.Conv_bind ((idx_tab hk).of k2) (M.Conv_ite (fun t2 => ?_) (fun t2 => ?_)))))))) (M.Conv_ret _)
    · obtain ⟨u1, u2⟩ := upd true (by simp [warN, warB, t])
      exact M.Conv_bind (idx_tab hj) (M.Conv_bind u1 ((M.Conv_ret _).of u2))
    · obtain ⟨u1, u2⟩ := upd (warN a k k j) (by simp [warN, warB, t, t2])
      exact M.Conv_bind ((idx_tab hj).of k3) (M.Conv_bind (idx_tab hj) (M.Conv_bind u1 ((M.Conv_ret _).of u2)))
    · obtain ⟨u1, u2⟩ := upd false (by simp [warN, warB, t, t2])
      exact M.Conv_bind (idx_tab hj) (M.Conv_bind u1 ((M.Conv_ret _).of u2))
theorem compsF_congr {n : Nat} {r r' : Nat → Nat → Bool} (h : ∀ v i, v < n → i < n → r v i = r' v i) : compsF r n = compsF r' n := by
  have hc : ∀ v, v < n → compF r n v = compF r' n v := fun v hv => by
    unfold compF
    congr 1
    refine List.filter_congr fun w hw => ?_
    have hw := List.mem_range.1 hw
    rw [h v w hv hw, h w v hw hv]
  unfold compsF
  rw [List.filter_congr (q := fun (v : Nat) => (compF r' n v).head? == some (v : Int)) fun v hv => by rw [hc v (List.mem_range.1 hv)]]
  exact List.map_congr_left fun v hv => hc v (List.mem_range.1 (List.mem_filter.1 hv).1)
/-- the components by both roads -/
theorem components_both {a : List (List Int)} (hs : Shp a a.length) : ∃ r : Nat → Nat → Bool, M.Conv (spec_l05Components a) (compsF r a.length) ∧ M.Conv (impl_componentsOf a) (compsF r a.length) ∧ ∀ v i, v < a.length → i < a.length → (r v i = true ↔ Rch (arcE a) a.length v i) := by
  obtain ⟨r, h1, h2⟩ := spec_l05Components_ok hs
  have hn := hs.rows
  refine ⟨r, h1, ?_, h2⟩
  rw [compsF_congr (r' := warN a a.length) fun v i hv hi => by rw [Bool.eq_iff_iff, h2 v i hv hi, war_reach hv hi]]
  unfold impl_componentsOf
  exact M.Conv_bind (reaching_ok hs) (comps_ok (by omega) fun v hv => (war_reach hv hv).2 (Rch.refl _ _ _))

theorem CritP.arc {a : List (List Int)} (hm : Mat a a.length) {l : List Nat} {W : Int} {r : TRatio} {S : List (List Int)} (h : CritP a l W r S) {i k : Nat} (hi : i < a.length) (hk : k < a.length) : arcE (matF a.length a.length (critF (matF a.length a.length (shF a r.Den r.Num)) S a)) k i ↔ critB (matF a.length a.length (shF a r.Den r.Num)) S k i = true := by
  unfold arcE
  rw [entA_matF hi hk]
  unfold critF
  obtain ⟨e1, e2⟩ := h.ent hm hi hk
  have hci := critB_iff e1 e2
  cases c : critB (matF a.length a.length (shF a r.Den r.Num)) S k i with
  | false => simp
  | true =>
    obtain ⟨q1, _, _⟩ := hci.1 c
    simp only [cond_true, iff_true]
    rcases h.sh.val hi hk with e | e
    · exact absurd e.2 q1
    · exact e.1
theorem CritP.on {a : List (List Int)} (hm : Mat a a.length) {l : List Nat} {W : Int} {r : TRatio} {S : List (List Int)} (h : CritP a l W r S) {i j : Nat} (hi : i < a.length) (hj : j < a.length) {b0 : Int} (hb : entA (matF a.length a.length (shF a r.Den r.Num)) i j = b0) (hne : b0 ≠ -1000000000000000) :
    ∀ {m x : Nat} {w1 : Int}, Wlk (matF a.length a.length (shF a r.Den r.Num)) a.length i m x w1 → ∀ {m2 : Nat} {w2 : Int}, Wlk (matF a.length a.length (shF a r.Den r.Num)) a.length x m2 j w2 → w1 + w2 + b0 = 0 → Rch (arcE (matF a.length a.length (critF (matF a.length a.length (shF a r.Den r.Num)) S a))) a.length i x := by
  intro m x w1 h1
  induction h1 with
  | nil _ => intro m2 w2 _ _; exact .refl _ _ _
  | step m y x w0 hw hx ha ih =>
    intro m2 w2 h2 hsum
    have hy := hw.lt.2
    -- from y on: the arc, then the rest
    have hrest : Wlk (matF a.length a.length (shF a r.Den r.Num)) a.length y (1 + m2) j (entA (matF a.length a.length (shF a r.Den r.Num)) x y + w2) := by
      have := Wlk.step 0 y x 0 (.nil hy) hx ha
      rw [Int.zero_add] at this
      exact Wlk.trans (k := 1) this h2
    have hr := ih hrest (by omega)
    refine hr.step hy hx ((h.arc hm hx hy).2 ?_)
    obtain ⟨e1, e2⟩ := h.ent hm hx hy
    -- back from x to y
    have hback : Wlk (matF a.length a.length (shF a r.Den r.Num)) a.length x (m2 + 1 + m) y (w2 + b0 + w0) := by
      have := Wlk.step m2 j i w2 h2 hi (by rw [hb]; exact hne)
      rw [hb] at this
      exact this.trans hw
    obtain ⟨c1, c2⟩ := h.st.cpl y x _ _ hback
    obtain ⟨k, hk⟩ := (h.st.snd y x hy hx).resolve_left c1
    have hcl := h.np.closed (Wlk.step k y x _ hk hx ha)
    exact (critB_iff e1 e2).2 ⟨ha, c1, by omega⟩
theorem CritP.back {a : List (List Int)} (hm : Mat a a.length) {l : List Nat} {W : Int} {r : TRatio} {S : List (List Int)} (h : CritP a l W r S) {i j : Nat} (hi : i < a.length) (hj : j < a.length) (hc : critB (matF a.length a.length (shF a r.Den r.Num)) S j i = true) : Rch (arcE (matF a.length a.length (critF (matF a.length a.length (shF a r.Den r.Num)) S a))) a.length i j := by
  obtain ⟨e1, e2⟩ := h.ent hm hi hj
  obtain ⟨q1, q2, q3⟩ := (critB_iff e1 e2).1 hc
  obtain ⟨k, hk⟩ := (h.st.snd j i hj hi).resolve_left q2
  exact h.on hm hi hj rfl q1 hk (.nil hj) (by omega)
/-- a component keeps its first node's arcs -/
theorem CritP.keep {a : List (List Int)} (hm : Mat a a.length) {l : List Nat} {W : Int} {r : TRatio} {S : List (List Int)} (h : CritP a l W r S) {rr : Nat → Nat → Bool} (hr : ∀ v i, v < a.length → i < a.length → (rr v i = true ↔ Rch (arcE (matF a.length a.length (critF (matF a.length a.length (shF a r.Den r.Num)) S a))) a.length v i)) {v : Nat} (hv : v < a.length) :
    (∃ i, i < a.length ∧ critB (matF a.length a.length (shF a r.Den r.Num)) S v i = true) ↔ ¬ ((compF rr a.length v).length = 1 ∧ critB (matF a.length a.length (shF a r.Den r.Num)) S v v = false) := by
  have hvv : (v : Int) ∈ compF rr a.length v := compF_mem.2 ⟨v, rfl, hv, (hr v v hv hv).2 (.refl _ _ _), (hr v v hv hv).2 (.refl _ _ _)⟩
  constructor
  · rintro ⟨i, hi, hc⟩ ⟨h1, h2⟩
    have a1 : rr v i = true := (hr v i hv hi).2 ((Rch.refl _ _ _).step hv hi ((h.arc hm hi hv).2 hc))
    have a2 : rr i v = true := (hr i v hi hv).2 (h.back hm hi hv hc)
    have him : (i : Int) ∈ compF rr a.length v := compF_mem.2 ⟨i, rfl, hi, a1, a2⟩
    obtain ⟨x, hx⟩ := List.length_eq_one_iff.1 h1
    rw [hx, List.mem_singleton] at hvv him
    have : i = v := by omega
    rw [this] at hc
    rw [hc] at h2; cases h2
  · intro hno
    by_cases hself : critB (matF a.length a.length (shF a r.Den r.Num)) S v v = true
    · exact ⟨v, hv, hself⟩
    · have hlen : (compF rr a.length v).length ≠ 1 := fun e => hno ⟨e, by simpa using hself⟩
      -- another node of the component
      have : ∃ u, u < a.length ∧ u ≠ v ∧ rr v u = true := by
        apply Classical.byContradiction
        intro hnone
        refine hlen ?_
        have e : compF rr a.length v = [(v : Int)] := by
          unfold compF
          have : ((List.range a.length).filter fun w => rr v w && rr w v) = [v] := by
            have hvm : v ∈ (List.range a.length).filter fun w => rr v w && rr w v := by
              rw [List.mem_filter]
              exact ⟨List.mem_range.2 hv, by rw [(hr v v hv hv).2 (.refl _ _ _)]; rfl⟩
            have hall : ∀ w ∈ (List.range a.length).filter fun w => rr v w && rr w v, w = v := fun w hw => by
              rw [List.mem_filter, List.mem_range, Bool.and_eq_true] at hw
              exact Classical.byContradiction fun hne => hnone ⟨w, hw.1, hne, hw.2.1⟩
            have hnd : ((List.range a.length).filter fun w => rr v w && rr w v).Nodup := List.nodup_range.filter _
            revert hvm hall hnd
            generalize (List.range a.length).filter (fun w => rr v w && rr w v) = L
            intro hvm hall hnd
            cases L with
            | nil => simp at hvm
            | cons x L =>
              have hx := hall x List.mem_cons_self
              cases L with
              | nil => rw [hx]
              | cons y L =>
                have hy := hall y (by simp)
                rw [hx, hy] at hnd
                simp at hnd
          rw [this]; rfl
        rw [e]; rfl
      obtain ⟨u, hu, hne, hru⟩ := this
      obtain ⟨k, hk⟩ := (hr v u hv hu).1 hru
      -- the first arc of the way from v
      have first : ∀ {k u : Nat}, RK (arcE (matF a.length a.length (critF (matF a.length a.length (shF a r.Den r.Num)) S a))) a.length v k u → u ≠ v → ∃ i, i < a.length ∧ critB (matF a.length a.length (shF a r.Den r.Num)) S v i = true := by
        intro k u hk
        induction hk with
        | nil k => intro hne; exact absurd rfl hne
        | step k j i _ hj hi he ih =>
          intro _
          by_cases e : j = v
          · subst e
            exact ⟨i, hi, (h.arc hm hi hj).1 he⟩
          · exact ih e
      exact first hk hne

def firsts (L : List (Nat × Nat)) (o : List Nat) : List Nat := L.foldl (fun o p => if p.1 ∈ o then o else o ++ [p.1]) o
theorem firsts_snoc (L : List (Nat × Nat)) (p : Nat × Nat) (o : List Nat) : firsts (L ++ [p]) o = if p.1 ∈ firsts L o then firsts L o else firsts L o ++ [p.1] := by
  unfold firsts; rw [List.foldl_append]; rfl
theorem firsts_app (L M : List (Nat × Nat)) (o : List Nat) : firsts (L ++ M) o = firsts M (firsts L o) := by
  unfold firsts; rw [List.foldl_append]
theorem firsts_len : ∀ (L : List (Nat × Nat)) (o : List Nat), (firsts L o).length ≤ o.length + L.length
  | [], o => by simp [firsts]
  | p :: L, o => by
    show (firsts L (if p.1 ∈ o then o else o ++ [p.1])).length ≤ _
    by_cases e : p.1 ∈ o
    · rw [if_pos e]
      have := firsts_len L o
      simp only [List.length_cons]; omega
    · rw [if_neg e]
      have := firsts_len L (o ++ [p.1])
      simp only [List.length_cons, List.length_append, List.length_nil] at this ⊢; omega
theorem firsts_in {j : Nat} : ∀ (L : List (Nat × Nat)) (o : List Nat), (∀ p ∈ L, p.1 = j) → j ∈ o → firsts L o = o
  | [], o, _, _ => rfl
  | p :: L, o, h, hj => by
    show firsts L (if p.1 ∈ o then o else o ++ [p.1]) = o
    rw [if_pos (by rw [h p List.mem_cons_self]; exact hj)]
    exact firsts_in L o (fun q hq => h q (List.mem_cons_of_mem _ hq)) hj
def nodesC (c : Nat → Nat → Bool) (n m : Nat) : List Nat := (List.range m).filter fun j => (List.range n).any (c j)
theorem firsts_arcs (c : Nat → Nat → Bool) (n : Nat) : ∀ m, firsts (arcsV c n m) [] = nodesC c n m
  | 0 => rfl
  | m + 1 => by
    rw [arcsV, firsts_app, firsts_arcs c n m]
    have hout : m ∉ nodesC c n m := fun h => by
      unfold nodesC at h
      rw [List.mem_filter, List.mem_range] at h
      omega
    have hall : ∀ p ∈ arcsR c m n, p.1 = m := fun p hp => by
      unfold arcsR at hp
      obtain ⟨i, _, rfl⟩ := List.mem_map.1 hp
      rfl
    have hmem : ∀ i, (m, i) ∈ arcsR c m n ↔ i < n ∧ c m i = true := fun i => by
      unfold arcsR
      simp only [List.mem_map, List.mem_filter, List.mem_range]
      constructor
      · rintro ⟨q, hq, e⟩
        have : q = i := by simpa using congrArg Prod.snd e
        rw [← this]; exact hq
      · exact fun h => ⟨i, h, rfl⟩
    unfold nodesC at hout ⊢
    rw [List.range_succ, List.filter_append]
    cases hany : (List.range n).any (c m) with
    | true =>
      have e2 : [m].filter (fun j => (List.range n).any (c j)) = [m] := by simp only [List.filter_cons, hany, if_true, List.filter_nil]
      rw [e2]
      rw [List.any_eq_true] at hany
      obtain ⟨i, hi, hc⟩ := hany
      have h1 := (hmem i).2 ⟨List.mem_range.1 hi, hc⟩
      cases hL : arcsR c m n with
      | nil => rw [hL] at h1; simp at h1
      | cons p L =>
        have hp := hall p (by rw [hL]; exact List.mem_cons_self)
        show firsts L (if p.1 ∈ _ then _ else _) = _
        rw [hp, if_neg hout]
        exact firsts_in L _ (fun q hq => hall q (by rw [hL]; exact List.mem_cons_of_mem _ hq)) (by simp)
    | false =>
      have e2 : [m].filter (fun j => (List.range n).any (c j)) = [] := by simp only [List.filter_cons, hany, Bool.false_eq_true, if_false, List.filter_nil]
      rw [e2, List.append_nil]
      have : arcsR c m n = [] := by
        unfold arcsR
        rw [List.map_eq_nil_iff, List.filter_eq_nil_iff]
        intro i hi hc
        rw [← Bool.not_eq_true, List.any_eq_true] at hany
        exact hany ⟨i, hi, hc⟩
      rw [this]; rfl
theorem nodes_conv {a : List (List Int)} {c : Nat → Nat → Bool} {n : Nat} (hn : n ≤ 10) (h : M.Conv (spec_l06Arcs a) ((arcsV c n n).map encA)) : M.Conv (spec_l06Nodes a) (toI (nodesC c n n)) := by
  have hlen := arcsV_len c n n
  have hnn : n * n ≤ 100 := Nat.mul_le_mul hn hn
  rw [← firsts_arcs c n n]
  generalize arcsV c n n = L at h hlen
  unfold spec_l06Nodes
  refine M.Conv_bind h (M.Conv_bind (x := toI (firsts L [])) ?_ (M.Conv_ret _))
  have e : toI (firsts L []) = toI (firsts (L.take L.length) []) := by rw [List.take_length]
  rw [e, List.length_map]
  refine Conv_forV (fun k => toI (firsts (L.take k) [])) (by omega) fun k hk => ?_
  have ht : L.take (k + 1) = L.take k ++ [L[k]] := by rw [List.take_add_one]; simp [hk]
  have hp : M.Conv (M.idx (L.map encA) (k : Int)) (encA L[k]) := M.Conv_idx (by simp [hk])
  have hfl := firsts_len (L.take k) []
  rw [List.length_take, List.length_nil] at hfl
  simp only [ht, firsts_snoc]
  generalize L[k] = p at *
  have hx : M.Conv (M.idx (encA p) 0) (p.1 : Int) := M.Conv_idx (i := 0) rfl
  have hhas := l01Has_ok (l := toI (firsts (L.take k) [])) (p.1 : Int) (by rw [List.length_map]; omega)
  have hb : ((toI (firsts (L.take k) [])).any fun y => y == (p.1 : Int)) = decide (p.1 ∈ firsts (L.take k) []) := by
    rw [Bool.eq_iff_iff, List.any_eq_true, decide_eq_true_eq]
    constructor
    · rintro ⟨y, hy, e⟩
      rw [eq_of_beq e] at hy
      exact toI_mem.1 hy
    · exact fun hm => ⟨_, toI_mem.2 hm, by simp⟩
  rw [hb] at hhas
  refine M.Conv_bind hp (M.Conv_bind hx (M.Conv_bind hhas (M.Conv_bind (x := toI (if p.1 ∈ firsts (L.take k) [] then firsts (L.take k) [] else firsts (L.take k) [] ++ [p.1])) (M.Conv_ite (fun t => ?_) (fun t => ?_)) (M.Conv_ret _))))
  · have t : p.1 ∉ firsts (L.take k) [] := by simpa using t
    rw [if_neg t]
    exact M.Conv_bind hp (M.Conv_bind hx (M.Conv_bind ((M.Conv_app (by simp; omega)).of (by simp)) (M.Conv_ret _)))
  · have t : p.1 ∈ firsts (L.take k) [] := by simpa using t
    rw [if_pos t]
    exact M.Conv_ret _

theorem find_row {s : List (List Int)} {del : List (List Int)} {p : List Int → Bool} (hs : s.length ≤ 1099511627776) (hp : ∀ x ∈ s, M.Conv (impl_criticalComponents_1 x del) (p x)) :
    M.TC (slices_IndexFunc_row_F_impl_criticalComponents_1 s del) (fun q => (q = -1 ∧ ∀ x ∈ s, p x = false) ∨ ∃ (i : Nat) (x : List Int), q = i ∧ s[i]? = some x ∧ p x = true ∧ ∀ y ∈ s.take i, p y = false) := by
  unfold slices_IndexFunc_row_F_impl_criticalComponents_1
  refine M.TC_bind (M.TC_forE (fun k (_ : Unit) => ∀ y ∈ s.take k, p y = false) (fun q => ∃ (i : Nat) (x : List Int), q = (i : Int) ∧ s[i]? = some x ∧ p x = true ∧ ∀ y ∈ s.take i, p y = false) (by omega) (by simp) (fun i u hi hI => ?_)) fun y hy => ?_
  · have hx := List.getElem?_eq_getElem hi
    have c := hp s[i] (List.getElem_mem hi)
    have e : s.take (i + 1) = s.take i ++ [s[i]] := by rw [List.take_add_one]; simp [hi]
    generalize s[i] = x at hx c e
    refine M.TC_bindC (M.Conv_idx hx) (M.TC_bindC c (M.TC_ite (fun t => M.TC_ret (.inr ⟨_, rfl, i, x, rfl, hx, t, hI⟩)) (fun t => M.TC_ret (.inl ⟨_, rfl, fun y hy => ?_⟩))))
    rw [e, List.mem_append, List.mem_singleton] at hy
    rcases hy with hy | rfl
    · exact hI y hy
    · exact t
  · rcases hy with ⟨u, rfl, h⟩ | ⟨r, rfl, h⟩
    · exact M.TC_ret (.inl ⟨rfl, fun x hx => h x (by rw [List.take_of_length_le (Nat.le_refl _)]; exact hx)⟩)
    · exact M.TC_ret (.inr h)
theorem del_ok {s : List (List Int)} {del : List (List Int)} {p : List Int → Bool} (hs : s.length ≤ 1099511627776) (hp : ∀ x ∈ s, M.Conv (impl_criticalComponents_1 x del) (p x)) :
    M.Conv (slices_DeleteFunc_row_F_impl_criticalComponents_1 s del) (s.filter fun x => !p x) := by
  apply M.TC.conv
  unfold slices_DeleteFunc_row_F_impl_criticalComponents_1
  refine M.TC_bind (find_row hs hp) fun q hq => ?_
  rcases hq with ⟨rfl, h⟩ | ⟨i, x, rfl, hx, hpx, h⟩
  · exact M.TC_ite (fun _ => M.TC_ret (List.filter_eq_self.2 fun y hy => by rw [h y hy]; rfl).symm) (fun t => by simp at t)
  · have hi := (List.getElem?_eq_some_iff.1 hx).1
    refine M.TC_ite (fun t => by have := eq_of_beq t; omega) (fun _ => ?_)
    rw [w64_eq _ (by omega)]
    refine M.TC_bind (M.TC_for (Post := fun (y : List (List Int) × Int) => ∃ k : Nat, y.2 = k ∧ k ≤ s.length ∧ y.1.length = s.length ∧ y.1.take k = s.filter fun x => !p x) (fun j (y : List (List Int) × Int) => ∃ k m : Nat, y.2 = k ∧ j = m ∧ k ≤ m ∧ m ≤ s.length ∧ y.1.length = s.length ∧ y.1.take k = ((s.take m).filter fun x => !p x) ∧ y.1.drop m = s.drop m) (s, (i : Int)) (by omega) (by omega) ⟨i, i + 1, rfl, by omega, by omega, by omega, rfl, ?_, rfl⟩ (fun j y h1 h2 hI => ?_) (fun j y hj hI => ?_)) fun y hy => ?_
    · rw [List.take_add_one, hx, List.filter_append, List.filter_eq_self.2 fun y hy => by rw [h y hy]; rfl]
      simp [hpx]
    · obtain ⟨L, k'⟩ := y
      obtain ⟨k, m, rfl, rfl, h3, h4, h5, h6, h7⟩ := hI
      simp only at h5 h6 h7
      have hm : m < s.length := by omega
      have hget : L[m]? = some s[m] := by
        have e1 : (L.drop m)[0]? = (s.drop m)[0]? := by rw [h7]
        rw [List.getElem?_drop, List.getElem?_drop, Nat.add_zero, List.getElem?_eq_getElem hm] at e1
        exact e1
      have c := hp s[m] (List.getElem_mem hm)
      have e : s.take (m + 1) = s.take m ++ [s[m]] := by rw [List.take_add_one]; simp [hm]
      have h8 : L.drop (m + 1) = s.drop (m + 1) := by
        have := congrArg (List.drop 1) h7
        rwa [List.drop_drop, List.drop_drop] at this
      generalize s[m] = x' at hget c e
      refine M.TC_bindC (M.Conv_idx hget) (M.TC_bindC c ?_)
      cases hpx' : p x' with
      | true =>
        refine M.TC_bindC (x := (L, (k : Int))) (M.Conv_ite (fun t => by cases t) (fun _ => M.Conv_ret _)) (M.TC_ret (.inl ⟨_, rfl, k, m + 1, rfl, by omega, by omega, by omega, h5, ?_, h8⟩))
        rw [e, List.filter_append, h6]
        simp [hpx']
      | false =>
        have hk : k < L.length := by omega
        refine M.TC_bindC (x := (L.set k x', (k : Int) + 1)) (M.Conv_ite (fun _ => M.Conv_bind (M.Conv_idx (List.getElem?_eq_getElem hk)) (M.Conv_bind (M.Conv_upd hk) ((M.Conv_ret _).of ?_))) (fun t => by cases t)) (M.TC_ret (.inl ⟨_, rfl, k + 1, m + 1, by simp, by omega, by omega, by omega, by simpa using h5, ?_, ?_⟩))
        · rw [w64_eq _ (by omega)]
        · simp only
          rw [e, List.filter_append, ← h6, List.take_add_one, List.getElem?_set_self hk, List.take_set_of_le (Nat.le_refl _)]
          simp [hpx']
        · simp only
          rw [List.drop_set_of_lt (by omega)]; exact h8
    · obtain ⟨k, m, h1, rfl, h3, h4, h5, h6, h7⟩ := hI
      have : m = s.length := by omega
      subst this
      rw [List.take_of_length_le (Nat.le_refl _)] at h6
      exact ⟨k, h1, h3, h5, h6⟩
    · obtain ⟨L, k'⟩ := y
      obtain ⟨k, rfl, h1, h2, h3⟩ := hy
      simp only at h2 h3
      have hlk : (L.take k).length = k := by rw [List.length_take]; omega
      refine M.TC_bindC (M.Conv_sub (by omega) (by show (k : Int) ≤ (s.length : Int); omega) (by show (s.length : Int) ≤ (L.length : Int); omega)) (M.TC_bindC (M.Conv_sub (by omega) (by omega) (by simp; omega)) (M.TC_ret ?_))
      simp only [Int.toNat_zero, List.drop_zero, Int.toNat_natCast, Nat.sub_zero]
      have e3 : (L.take k ++ List.replicate (s.length - k) []).take k = L.take k := by rw [List.take_append_of_le_length (by omega), List.take_of_length_le (by omega)]
      exact e3.trans h3
/-- the components that have an arc -/
def keepF (rr : Nat → Nat → Bool) (c : Nat → Nat → Bool) (n : Nat) : List (List Int) := ((List.range n).filter fun v => ((compF rr n v).head? == some (v : Int)) && (List.range n).any (c v)).map (compF rr n)
theorem lcomps_both {a : List (List Int)} (hm : Mat a a.length) {l : List Nat} {W : Int} {r : TRatio} {S : List (List Int)} (h : CritP a l W r S) (hmat : M.Conv (spec_l06Matrix a) (matF a.length a.length (critF (matF a.length a.length (shF a r.Den r.Num)) S a)))
    (harc : M.Conv (spec_l06Arcs a) ((arcsV (critB (matF a.length a.length (shF a r.Den r.Num)) S) a.length a.length).map encA)) :
    ∃ rr : Nat → Nat → Bool, (∀ v i, v < a.length → i < a.length → (rr v i = true ↔ Rch (arcE (matF a.length a.length (critF (matF a.length a.length (shF a r.Den r.Num)) S a))) a.length v i)) ∧
      M.Conv (impl_criticalComponents (matF a.length a.length (critF (matF a.length a.length (shF a r.Den r.Num)) S a))) (keepF rr (critB (matF a.length a.length (shF a r.Den r.Num)) S) a.length) ∧
      M.Conv (spec_l06Components a) (keepF rr (critB (matF a.length a.length (shF a r.Den r.Num)) S) a.length) := by
  have hrows := hm.rows
  have hnodes := nodes_conv (by omega) harc
  have harcs : ∀ {i k : Nat}, i < a.length → k < a.length → (arcE (matF a.length a.length (critF (matF a.length a.length (shF a r.Den r.Num)) S a)) k i ↔ critB (matF a.length a.length (shF a r.Den r.Num)) S k i = true) := fun hi hk => h.arc hm hi hk
  have hkeep := fun {rr : Nat → Nat → Bool} (hr : ∀ v i, v < a.length → i < a.length → (rr v i = true ↔ Rch (arcE (matF a.length a.length (critF (matF a.length a.length (shF a r.Den r.Num)) S a))) a.length v i)) {v : Nat} (hv : v < a.length) => h.keep hm hr hv
  generalize critB (matF a.length a.length (shF a r.Den r.Num)) S = c at *
  have hC : ∀ {i j : Nat}, i < a.length → j < a.length → M.Conv (M.idx (matF a.length a.length (critF (matF a.length a.length (shF a r.Den r.Num)) S a)) (i : Int)) (rowN (matF a.length a.length (critF (matF a.length a.length (shF a r.Den r.Num)) S a)) i) ∧ M.Conv (M.idx (rowN (matF a.length a.length (critF (matF a.length a.length (shF a r.Den r.Num)) S a)) i) (j : Int)) (entA (matF a.length a.length (critF (matF a.length a.length (shF a r.Den r.Num)) S a)) i j) := fun {i j} hi hj => by
    have hs : Shp (matF a.length a.length (critF (matF a.length a.length (shF a r.Den r.Num)) S a)) a.length := shp_of (by omega) (by omega)
    have hl := matF_len a.length a.length (critF (matF a.length a.length (shF a r.Den r.Num)) S a)
    have hrl := hs.row _ (List.mem_of_getElem? (rowN_get (a := matF a.length a.length (critF (matF a.length a.length (shF a r.Den r.Num)) S a)) (i := i) (by omega)))
    have g2 := nd_read (l := rowN (matF a.length a.length (critF (matF a.length a.length (shF a r.Den r.Num)) S a)) i) (i := j) (by omega)
    rw [nd_row (by omega)] at g2
    exact ⟨get_row (rowN_get (by omega)), g2⟩
  have hsC : Shp (matF a.length a.length (critF (matF a.length a.length (shF a r.Den r.Num)) S a)) a.length := shp_of (by omega) (by omega)
  have hlC := matF_len a.length a.length (critF (matF a.length a.length (shF a r.Den r.Num)) S a)
  generalize matF a.length a.length (critF (matF a.length a.length (shF a r.Den r.Num)) S a) = C at *
  obtain ⟨rr, k1, k2, k3⟩ := components_both (a := C) (by rw [hlC]; exact hsC)
  rw [hlC] at k1 k2 k3
  refine ⟨rr, k3, ?_, ?_⟩
  · -- the program's road
    let p : List Int → Bool := fun x => (x.length == 1) && (entA C (x.headD 0).toNat (x.headD 0).toNat == -1000000000000000)
    have hd : ∀ x ∈ compsF rr a.length, ∃ v, v < a.length ∧ x.head? = some (v : Int) := fun x hx => by
      unfold compsF at hx
      obtain ⟨v, hv, rfl⟩ := List.mem_map.1 hx
      rw [List.mem_filter, List.mem_range] at hv
      exact ⟨v, hv.1, eq_of_beq hv.2⟩
    have hp : ∀ x ∈ compsF rr a.length, M.Conv (impl_criticalComponents_1 x C) (p x) := fun x hx => by
      obtain ⟨v, hv, e⟩ := hd x hx
      have e0 : x[0]? = some (v : Int) := by rw [← List.head?_eq_getElem?]; exact e
      have e1 : (x.headD 0).toNat = v := by rw [List.headD_eq_head?_getD, e]; rfl
      unfold impl_criticalComponents_1
      refine M.Conv_bind (M.Conv_idx (i := 0) e0) (M.Conv_bind (x := p x) (M.Conv_ite (fun t => M.Conv_bind (hC hv hv).1 (M.Conv_bind (hC hv hv).2 ((M.Conv_ret _).of ?_))) (fun t => (M.Conv_ret _).of ?_)) (M.Conv_ret _))
      · have t : x.length = 1 := by have := eq_of_beq t; omega
        simp only [p, e1, t]; simp
      · have t : x.length ≠ 1 := fun e => by rw [e] at t; simp at t
        simp only [p]
        rw [show (x.length == 1) = false by simpa using t]; rfl
    have hdel := del_ok (s := compsF rr a.length) (del := C) (p := p) (by have := compsF_len (r := rr) (n := a.length); omega) hp
    unfold impl_criticalComponents
    refine M.Conv_bind k2 (M.Conv_bind hdel ((M.Conv_ret _).of ?_))
    unfold compsF keepF
    rw [List.filter_map, List.filter_filter]
    congr 1
    refine List.filter_congr fun v hv => ?_
    have hv := List.mem_range.1 hv
    simp only [Function.comp]
    rw [Bool.and_comm]
    cases hh : (compF rr a.length v).head? == some (v : Int) with
    | false => rfl
    | true =>
      simp only [Bool.true_and]
      have e := eq_of_beq hh
      have e1 : ((compF rr a.length v).headD 0).toNat = v := by rw [List.headD_eq_head?_getD, e]; rfl
      have hk := hkeep k3 hv
      have ha := harcs hv hv
      unfold arcE at ha
      rw [Bool.eq_iff_iff]
      simp only [p, e1]
      rw [List.any_eq_true]
      simp only [List.mem_range]
      rw [hk]
      simp only [Bool.not_eq_true', Bool.and_eq_false_iff, beq_eq_false_iff_ne, ne_eq]
      rw [← Bool.not_eq_true (c v v), ← ha]
      by_cases q1 : (compF rr a.length v).length = 1 <;> by_cases q2 : entA C v v = -1000000000000000 <;> simp [q1, q2]
  · unfold spec_l06Components
    refine M.Conv_bind hmat (M.Conv_bind k1 (M.Conv_bind hnodes (M.Conv_bind (x := keepF rr c a.length) ?_ (M.Conv_ret _))))
    have hcl := compsF_len (r := rr) (n := a.length)
    have hkf : keepF rr c a.length = (compsF rr a.length).filter fun x => (toI (nodesC c a.length a.length)).any fun y => y == x.headD 0 := by
      unfold compsF keepF
      rw [List.filter_map, List.filter_filter]
      congr 1
      refine List.filter_congr fun v hv => ?_
      have hv := List.mem_range.1 hv
      simp only [Function.comp]
      rw [Bool.and_comm]
      cases hh : (compF rr a.length v).head? == some (v : Int) with
      | false => simp
      | true =>
        have e := eq_of_beq hh
        rw [Bool.and_true, Bool.and_true, List.headD_eq_head?_getD, e]
        rw [Bool.eq_iff_iff, List.any_eq_true (p := fun y => y == _)]
        simp only [Option.getD_some, beq_iff_eq]
        constructor
        · intro hany
          refine ⟨(v : Int), toI_mem.2 ?_, rfl⟩
          unfold nodesC
          rw [List.mem_filter, List.mem_range]
          exact ⟨hv, hany⟩
        · rintro ⟨y, hy, rfl⟩
          have := toI_mem.1 hy
          unfold nodesC at this
          rw [List.mem_filter] at this
          exact this.2
    rw [hkf]
    have hd : ∀ x ∈ compsF rr a.length, ∃ v : Int, x[0]? = some v ∧ x.headD 0 = v := fun x hx => by
      unfold compsF at hx
      obtain ⟨v, hv, rfl⟩ := List.mem_map.1 hx
      rw [List.mem_filter, List.mem_range] at hv
      have e := eq_of_beq hv.2
      exact ⟨v, by rw [← List.head?_eq_getElem?]; exact e, by rw [List.headD_eq_head?_getD, e]; rfl⟩
    generalize compsF rr a.length = s at *
    have hnl : (toI (nodesC c a.length a.length)).length ≤ 10 := by
      unfold nodesC
      rw [List.length_map]
      have := List.length_filter_le (fun j => (List.range a.length).any (c j)) (List.range a.length)
      rw [List.length_range] at this
      omega
    generalize toI (nodesC c a.length a.length) = N at *
    have e0 : s.filter (fun x => N.any fun y => y == x.headD 0) = (s.take s.length).filter (fun x => N.any fun y => y == x.headD 0) := by rw [List.take_length]
    rw [e0]
    refine Conv_forV (n := s.length) (fun k => (s.take k).filter fun x => N.any fun y => y == x.headD 0) (by omega) fun k hk => ?_
    have e : s.take (k + 1) = s.take k ++ [s[k]] := by rw [List.take_add_one]; simp [hk]
    have hx := List.getElem?_eq_getElem hk
    obtain ⟨v, hv, hv2⟩ := hd s[k] (List.getElem_mem hk)
    have hfl := List.length_filter_le (fun x => N.any fun y => y == x.headD 0) (s.take k)
    rw [List.length_take] at hfl
    generalize s[k] = x at *
    refine M.Conv_bind (M.Conv_idx hx) (M.Conv_bind (M.Conv_idx (i := 0) hv) (M.Conv_bind (l01Has_ok (l := N) v (by omega)) (M.Conv_bind (x := (s.take (k + 1)).filter fun x => N.any fun y => y == x.headD 0) (M.Conv_ite (fun t => ?_) (fun t => ?_)) (M.Conv_ret _))))
    · refine M.Conv_bind (M.Conv_idx hx) (M.Conv_bind ((M.Conv_app (by rw [List.length_cons, List.length_nil]; omega)).of ?_) (M.Conv_ret _))
      rw [e, List.filter_append, List.filter_cons, hv2, if_pos t]; rfl
    · refine (M.Conv_ret _).of ?_
      rw [e, List.filter_append, List.filter_cons, hv2, if_neg (by rw [t]; simp)]; simp

def lenB (F : List Int → Int → M Int) (a_ : List (List Int)) (path : List Int) (g : Int) : M Int := M.bind (M.idx path 0) (fun x1 => M.bind (M.idx path (w64 ((path.length : Int) - 1))) (fun x2 => M.bind (M.idx a_ x1) (fun x3 => M.bind (M.idx x3 x2) (fun x4 => M.bind (M.ite (x4 != (-1000000000000000)) (M.bind (spec_l01Divisor g (path.length : Int)) (fun x5 => M.ret x5)) (M.ret g)) (fun (s1 : Int) => M.bind (M.forI (w64 (x1 + 1)) (a_.length : Int) (fun s => s) (fun i1 => (fun (s2 : Int) => M.bind (M.idx a_ i1) (fun x7 => M.bind (M.idx x7 x2) (fun x8 => M.bind (M.ite (x8 != (-1000000000000000)) (M.bind (spec_l01Has path i1) (fun x10 => M.ret (!x10))) (M.ret false)) (fun x9 => M.bind (M.ite x9 (M.bind (spec_l01Own path) (fun x11 => M.bind (M.app x11 ([i1] : List Int)) (fun l1 => M.bind (F l1 s2) (fun x12 => M.ret x12)))) (M.ret s2)) (fun (s3 : Int) => M.ret (.inl s3))))))) s1) (fun x6 => M.ret x6))))))
theorem lenR_eq (k : Nat) (a : List (List Int)) (path : List Int) (g : Int) : spec_l06Lengths_R (k + 1) a path g = lenB (fun p g => spec_l06Lengths_R k a p g) a path g := rfl
def Ld (a : List (List Int)) (d : Nat) (path : List Int) (g : Int) : M Int := fun n => spec_l06Lengths_R (n - d) a path g n
theorem lenB_at {F G : List Int → Int → M Int} {a : List (List Int)} {path : List Int} {g : Int} {n : Nat} (h : ∀ p w, F p w n = G p w n) : lenB F a path g n = lenB G a path g n := by
  unfold lenB
  refine M.bind_at rfl fun x1 => M.bind_at rfl fun x2 => M.bind_at rfl fun x3 => M.bind_at rfl fun x4 => M.bind_at rfl fun x5 => M.bind_at (M.for_at fun i s => ?_) fun x => rfl
  exact M.bind_at rfl fun x7 => M.bind_at rfl fun x8 => M.bind_at rfl fun x9 => M.bind_at (M.ite_at (M.bind_at rfl fun x11 => M.bind_at rfl fun l1 => M.bind_at (h _ _) fun _ => rfl) rfl) fun _ => rfl
theorem Ld_step {a : List (List Int)} {d n : Nat} {path : List Int} {g : Int} (h : d < n) : Ld a d path g n = lenB (Ld a (d + 1)) a path g n := by
  obtain ⟨k, hk⟩ : ∃ k, n - d = k + 1 := ⟨n - d - 1, by omega⟩
  show spec_l06Lengths_R (n - d) a path g n = _
  rw [hk, lenR_eq]
  refine lenB_at fun p w => ?_
  show spec_l06Lengths_R k a p w n = spec_l06Lengths_R (n - (d + 1)) a p w n
  rw [show n - (d + 1) = k by omega]
/-- q: the greatest common divisor of g and of the lengths of the written cycles of which Q holds -/
def LenP (a : List (List Int)) (n : Nat) (Q : List Nat → Prop) (g q : Nat) : Prop := q ≤ 10 ∧ ∀ d : Nat, d ∣ q ↔ d ∣ g ∧ ∀ l w, WC a n l w → Q l → d ∣ l.length
theorem dvd_gcd {d a b : Nat} : d ∣ Nat.gcd a b ↔ d ∣ a ∧ d ∣ b := ⟨fun h => ⟨Nat.dvd_trans h (Nat.gcd_dvd_left a b), Nat.dvd_trans h (Nat.gcd_dvd_right a b)⟩, fun h => Nat.dvd_gcd h.1 h.2⟩
theorem lens_tc {a : List (List Int)} {n : Nat} (hs : Shp a n) (al : a.length = n) : ∀ (m d : Nat) (h t : Nat) (x : List Nat) (w : Int) (g : Nat), (x ++ [t]).length + m = n → (x ++ [t]).head? = some h → (x ++ [t]).Nodup → (∀ y ∈ x ++ [t], h ≤ y) → Chn a n (x ++ [t]) w → g ≤ 10 → M.TC (Ld a d (toI (x ++ [t])) (g : Int)) (fun q => ∃ q' : Nat, q = q' ∧ LenP a n (fun l => (x ++ [t]) <+: l) g q') := by
  have hrows := hs.rows
  intro m
  induction m with
  | zero => ?_
  | succ m ih => ?_
  all_goals
    intro d h t x w g hm hh hnd hmin hc hg
    have hlen : (x ++ [t]).length ≤ n := nodup_lt n _ hnd hc.lt
    have ht := hc.last_lt
    have hhm : h ∈ x ++ [t] := List.mem_of_mem_head? (by rw [hh]; rfl)
    have hhn := hc.lt h hhm
    refine M.TC_at (d + 1) (fun k hk => Ld_step (by omega)) ?_
    have hpl : (toI (x ++ [t])).length = x.length + 1 := by simp
    have g0 : M.Conv (M.idx (toI (x ++ [t])) 0) (h : Int) := M.Conv_get (by omega) (toI_get (i := 0) (by rw [← List.head?_eq_getElem?]; exact hh))
    have g1 : M.Conv (M.idx (toI (x ++ [t])) (w64 (((toI (x ++ [t])).length : Int) - 1))) (t : Int) := by
      rw [hpl, w64_eq _ (by simp at hlen; omega)]
      exact M.Conv_get (by omega) (toI_get (i := (((x.length + 1 : Nat) : Int) - 1).toNat) (by rw [show (((x.length + 1 : Nat) : Int) - 1).toNat = x.length by omega]; simp))
    obtain ⟨r0, e1, _, e2⟩ := ent_read hs (i := h) (j := t) (by omega) ht
    -- the cycle that the path itself is
    have self : ∀ {l : List Nat} {w' : Int}, WC a n l w' → (x ++ [t]) <+: l → l = x ++ [t] ∨ ∃ v, h < v ∧ v < n ∧ (x ++ [t] ++ [v]) <+: l := fun {l w'} hw hp => by
      obtain ⟨z, rfl⟩ := hp
      cases z with
      | nil => exact .inl (by simp)
      | cons v z =>
        have hv : v < n := hw.cl.lt v (by simp)
        have hhv : h < v := by
          cases hx : x ++ [t] with
          | nil => rw [hx] at hh; cases hh
          | cons h' r =>
            rw [hx] at hh
            have e9 : h' = h := by simpa using hh
            subst e9
            exact hw.fst h' (r ++ v :: z) (by rw [hx]; rfl) v (by simp)
        exact .inr ⟨v, hhv, hv, ⟨z, by simp⟩⟩
    have chk : ∃ g1 : Nat, M.Conv (M.ite (entA a h t != (-1000000000000000)) (M.bind (spec_l01Divisor (g : Int) ((toI (x ++ [t])).length : Int)) (fun x5 => M.ret x5)) (M.ret (g : Int))) (g1 : Int) ∧ LenP a n (fun l => l = x ++ [t]) g g1 := by
      cases q : entA a h t != (-1000000000000000) with
      | true =>
        have hne : entA a h t ≠ -1000000000000000 := by simpa using q
        have hwc : ∃ w', WC a n (x ++ [t]) w' := by
          refine ⟨w + entA a h t, ?_, hnd, fun h' r e y hy => ?_⟩
          · cases hx : x ++ [t] with
            | nil => rw [hx] at hh; cases hh
            | cons h' r =>
              rw [hx] at hh
              have e9 : h' = h := by simpa using hh
              subst e9
              have := hc.snoc hhn hne
              rw [hx] at this
              exact ⟨h', r, rfl, this⟩
          · rw [e] at hh hnd
            have e9 : h' = h := by simpa using hh
            subst e9
            have h1 := hmin y (by rw [e]; exact List.mem_cons_of_mem _ hy)
            have h2 : y ≠ h' := fun c => (List.nodup_cons.1 hnd).1 (c ▸ hy)
            omega
        have hll : (x ++ [t]).length = x.length + 1 := by simp
        refine ⟨Nat.gcd g (x.length + 1), M.Conv_bind ((divisor_gcd (a := (g : Int)) (b := ((toI (x ++ [t])).length : Int)) (by omega) (by rw [hpl]; omega)).of (by rw [hpl]; rfl)) (M.Conv_ret _), ?_, fun d' => ?_⟩
        · have h9 := Nat.le_of_dvd (by omega) (Nat.gcd_dvd_right g (x.length + 1))
          omega
        · rw [dvd_gcd]
          constructor
          · rintro ⟨h1, h2⟩
            exact ⟨h1, fun l w' _ e => by rw [e, hll]; exact h2⟩
          · rintro ⟨h1, h2⟩
            obtain ⟨w', hw⟩ := hwc
            exact ⟨h1, by rw [← hll]; exact h2 _ w' hw rfl⟩
      | false =>
        refine ⟨g, M.Conv_ret _, hg, fun d' => ⟨fun h1 => ⟨h1, fun l w' hw e => ?_⟩, fun h1 => h1.1⟩⟩
        exfalso
        subst e
        obtain ⟨h', r, e, hcl⟩ := hw.cl
        rw [e] at hh
        have e9 : h' = h := by simpa using hh
        subst e9
        obtain ⟨w1, rfl, hc1, ha⟩ := hcl.snoc_inv
        simp at q
        exact ha q
    obtain ⟨g1', c1, p1⟩ := chk
    have ew : w64 ((h : Int) + 1) = ((h + 1 : Nat) : Int) := by rw [w64_eq _ (by omega)]; omega
    unfold lenB
    refine M.TC_bindC g0 (M.TC_bindC g1 (M.TC_bindC e1 (M.TC_bindC e2 (M.TC_bindC c1 ?_))))
    rw [ew, al]
    refine M.TC_bind (Mid := fun (y : Int) => ∃ q' : Nat, y = (q' : Int) ∧ LenP a n (fun l => (x ++ [t]) <+: l) g q') (M.TC_for (fun i (s : Int) => ∃ q' : Nat, s = (q' : Int) ∧ LenP a n (fun l => l = x ++ [t] ∨ ∃ v : Nat, h < v ∧ (v : Int) < i ∧ (x ++ [t] ++ [v]) <+: l) g q') (g1' : Int) (by omega) (by omega) ⟨g1', rfl, p1.1, fun d' => ?_⟩ (fun i s i1 i2 hI => ?_) (fun i s hi hI => ?_)) (fun y hy => M.TC_ret hy)
    · rw [p1.2 d']
      constructor
      · rintro ⟨h1, h2⟩
        refine ⟨h1, fun l w' hw hq => ?_⟩
        rcases hq with e | ⟨v, h3, h4, _⟩
        · exact h2 l w' hw e
        · omega
      · rintro ⟨h1, h2⟩
        exact ⟨h1, fun l w' hw e => h2 l w' hw (.inl e)⟩
    · obtain ⟨v, rfl⟩ : ∃ v : Nat, i = v := ⟨i.toNat, by omega⟩
      have hv : v < n := by omega
      obtain ⟨s', rfl, hs1, hs2⟩ := hI
      obtain ⟨rv, f1, _, f2⟩ := ent_read hs (i := v) (j := t) (by omega) ht
      -- one node more
      have more : ∀ q' : Nat, LenP a n (fun l => (x ++ [t] ++ [v]) <+: l) s' q' → LenP a n (fun l => l = x ++ [t] ∨ ∃ u : Nat, h < u ∧ (u : Int) < (v : Int) + 1 ∧ (x ++ [t] ++ [u]) <+: l) g q' := fun q' hq => by
        refine ⟨hq.1, fun d' => ?_⟩
        rw [hq.2 d', hs2 d']
        constructor
        · rintro ⟨⟨h1, h2⟩, h3⟩
          refine ⟨h1, fun l w' hw hc => ?_⟩
          rcases hc with e | ⟨u, u1, u2, u3⟩
          · exact h2 l w' hw (.inl e)
          · by_cases e : u = v
            · subst e; exact h3 l w' hw u3
            · exact h2 l w' hw (.inr ⟨u, u1, by omega, u3⟩)
        · rintro ⟨h1, h2⟩
          refine ⟨⟨h1, fun l w' hw hc => ?_⟩, fun l w' hw hc => h2 l w' hw (.inr ⟨v, by omega, by omega, hc⟩)⟩
          rcases hc with e | ⟨u, u1, u2, u3⟩
          · exact h2 l w' hw (.inl e)
          · exact h2 l w' hw (.inr ⟨u, u1, by omega, u3⟩)
      have test : M.Conv (M.ite (entA a v t != (-1000000000000000)) (M.bind (spec_l01Has (toI (x ++ [t])) (v : Int)) (fun x10 => M.ret (!x10))) (M.ret false)) ((entA a v t != (-1000000000000000)) && !((toI (x ++ [t])).any fun y => y == (v : Int))) := by
        cases q : entA a v t != (-1000000000000000) with
        | true => exact M.Conv_bind (l01Has_ok _ (by rw [hpl]; simp at hlen; omega)) (M.Conv_ret _)
        | false => exact M.Conv_ret _
      refine M.TC_bindC f1 (M.TC_bindC f2 (M.TC_bindC test ?_))
      cases q2 : (entA a v t != (-1000000000000000)) && !((toI (x ++ [t])).any fun y => y == (v : Int)) with
      | false =>
        refine M.TC_bindC (x := (s' : Int)) (M.Conv_ite (fun t => by cases t) (fun _ => M.Conv_ret _)) (M.TC_ret (.inl ⟨_, rfl, s', rfl, more s' ⟨hs1, fun d' => ⟨fun h1 => ⟨h1, fun l w' hw hp => ?_⟩, fun h1 => h1.1⟩⟩⟩))
        exfalso
        obtain ⟨z, rfl⟩ := hp
        simp only [Bool.and_eq_false_iff, bne_eq_false_iff_eq, Bool.not_eq_false', List.any_eq_true, beq_iff_eq] at q2
        rcases q2 with hb | ⟨y, hy, hyv⟩
        · obtain ⟨h', r, e, hcl⟩ := hw.cl
          rw [show x ++ [t] ++ [v] ++ z ++ [h'] = x ++ [t] ++ v :: (z ++ [h']) by simp] at hcl
          obtain ⟨w1, w2, _, c1, _⟩ := hcl.split
          obtain ⟨_, _, _, ha⟩ := c1.snoc_inv
          exact ha hb
        · subst hyv
          have hmem : v ∈ x ++ [t] := toI_mem.1 hy
          have := hw.nd
          rw [List.append_assoc, List.nodup_append] at this
          exact this.2.2 v hmem v (by simp) rfl
      | true =>
        simp only [Bool.and_eq_true, bne_iff_ne, ne_eq, Bool.not_eq_true', List.any_eq_false, beq_iff_eq] at q2
        have hvn : v ∉ x ++ [t] := fun hm => q2.2 _ (toI_mem.2 hm) rfl
        have hnd2 : (x ++ [t] ++ [v]).Nodup := by
          rw [List.nodup_append]
          exact ⟨hnd, by simp, fun b hb c hc e => by simp at hc; subst hc; exact hvn (e ▸ hb)⟩
        have hc2 := hc.snoc hv q2.1
        have hlen2 := nodup_lt n _ hnd2 hc2.lt
        have eo : M.Conv (spec_l01Own (toI (x ++ [t]))) (toI (x ++ [t])) := spec_l01Own_ok (by unfold smI; rw [hpl]; simp at hlen; omega)
        have ea : M.Conv (M.app (toI (x ++ [t])) ([(v : Int)] : List Int)) (toI (x ++ [t] ++ [v])) := (M.Conv_app (by rw [hpl]; simp at hlen ⊢; omega)).of (by simp)
        first
        | exact absurd hlen2 (by simp at hm ⊢; omega)
        | (have rc := ih (d + 1) h v (x ++ [t]) (w + entA a v t) s' (by simp at hm ⊢; omega) (by rw [List.head?_append, hh]; rfl) hnd2 (fun y hy => by
            rcases List.mem_append.1 hy with hy | hy
            · exact hmin y hy
            · simp at hy; omega) hc2 hs1
           obtain ⟨q, cq, q', rfl, hq⟩ := rc
           exact M.TC_bindC (x := (q' : Int)) (M.Conv_ite (fun _ => M.Conv_bind eo (M.Conv_bind ea (M.Conv_bind cq (M.Conv_ret _)))) (fun t => by cases t)) (M.TC_ret (.inl ⟨_, rfl, q', rfl, more q' hq⟩)))
    · obtain ⟨q', rfl, hq1, hq2⟩ := hI
      refine ⟨q', rfl, hq1, fun d' => ?_⟩
      rw [hq2 d']
      constructor
      · rintro ⟨h1, h2⟩
        refine ⟨h1, fun l w' hw hp => h2 l w' hw ?_⟩
        rcases self hw hp with e | ⟨v, v1, v2, v3⟩
        · exact .inl e
        · exact .inr ⟨v, v1, by omega, v3⟩
      · rintro ⟨h1, h2⟩
        refine ⟨h1, fun l w' hw hp => h2 l w' hw ?_⟩
        rcases hp with e | ⟨v, v1, v2, v3⟩
        · rw [e]; exact List.prefix_refl _
        · exact (List.prefix_append _ _).trans v3
/-- .. from one node on -/
theorem len1_tc {a : List (List Int)} {n : Nat} (hs : Shp a n) (al : a.length = n) {v g : Nat} (hv : v < n) (hg : g ≤ 10) : ∃ q : Nat, M.Conv (spec_l06Lengths a ([(v : Int)] : List Int) (g : Int)) (q : Int) ∧ LenP a n (fun l => [v] <+: l) g q := by
  obtain ⟨q, cq, q', rfl, hq⟩ := lens_tc hs al (n - 1) 0 v v [] 0 g (by simp; omega) rfl (by simp) (by simp) (.one v hv) hg
  exact ⟨q', cq, hq⟩

theorem Wlk.rch {a : List (List Int)} {n j k i : Nat} {w : Int} (h : Wlk a n j k i w) : Rch (arcE a) n j i := by
  induction h with
  | nil hj => exact .refl _ _ _
  | step k i i' w hw hi ha ih => exact ih.step hw.lt.2 hi ha
theorem Rch.wlk {a : List (List Int)} {n j i : Nat} (hj : j < n) (h : Rch (arcE a) n j i) : ∃ k w, Wlk a n j k i w := by
  obtain ⟨k, h⟩ := h
  induction h with
  | nil k => exact ⟨0, 0, .nil hj⟩
  | step k j' i' _ hj' hi he ih =>
    obtain ⟨k', w', h'⟩ := ih
    exact ⟨k' + 1, _, .step k' j' i' w' h' hi he⟩
/-- the nodes of a closed chain reach each other -/
theorem Cl.reach {a : List (List Int)} {n : Nat} {l : List Nat} {w : Int} (h : Cl a n l w) {x y : Nat} (hx : x ∈ l) (hy : y ∈ l) : Rch (arcE a) n x y := by
  obtain ⟨p, z, rfl⟩ := List.append_of_mem hx
  obtain ⟨h0, r, e, hc⟩ := h.rot
  simp only [List.cons_append, List.cons.injEq] at e
  obtain ⟨rfl, rfl⟩ := e
  have hy2 : y ∈ x :: (z ++ p) := by
    simp only [List.mem_append, List.mem_cons] at hy ⊢
    rcases hy with h | h | h
    · exact .inr (.inr h)
    · exact .inl h
    · exact .inr (.inl h)
  obtain ⟨s, t, e2⟩ := List.append_of_mem hy2
  have hc : Chn a n (s ++ y :: (t ++ [x])) w := by
    have : (x :: z ++ p) ++ [x] = s ++ y :: (t ++ [x]) := by
      rw [List.cons_append, e2]; simp
    rw [← this]; exact hc
  obtain ⟨w1, w2, _, c1, _⟩ := hc.split
  refine (Wlk.of_chn (j := x) _ c1 ?_ rfl).rch
  cases s with
  | nil =>
    simp only [List.nil_append, List.cons.injEq] at e2
    simp [e2.1]
  | cons s0 s =>
    simp only [List.cons_append, List.cons.injEq] at e2
    simp [e2.1]
/-- d divides the lengths of all closed walks at v -/
def DivC (a : List (List Int)) (n v d : Nat) : Prop := ∀ k w, Wlk a n v k v w → d ∣ k
theorem DivC.move {a : List (List Int)} {n v u d : Nat} (hv : v < n) (hu : u < n) (h1 : Rch (arcE a) n v u) (h2 : Rch (arcE a) n u v) (h : DivC a n v d) : DivC a n u d := by
  intro k w hw
  obtain ⟨k1, w1, c1⟩ := h1.wlk hv
  obtain ⟨k2, w2, c2⟩ := h2.wlk hu
  have d1 := h _ _ (c1.trans c2)
  have d2 := h _ _ ((c1.trans hw).trans c2)
  have e : k1 + k + k2 = (k1 + k2) + k := by omega
  rw [e] at d2
  exact (Nat.dvd_add_right d1).1 d2
/-- the period of the component of v -/
theorem l06Period_ok {a b : List (List Int)} {n : Nat} (hb : M.Conv (spec_l06Matrix a) b) (hs : Shp b n) (bl : b.length = n) {rr : Nat → Nat → Bool} (hr : ∀ v i, v < n → i < n → (rr v i = true ↔ Rch (arcE b) n v i)) {v : Nat} (hv : v < n) :
    ∃ q : Nat, M.Conv (spec_l06Period a (compF rr n v)) (q : Int) ∧ ∀ d : Nat, d ∣ q ↔ DivC b n v d := by
  have hrows := hs.rows
  let N : List Nat := (List.range n).filter fun w => rr v w && rr w v
  have hN : compF rr n v = toI N := rfl
  have hNm : ∀ u, u ∈ N ↔ u < n ∧ Rch (arcE b) n v u ∧ Rch (arcE b) n u v := fun u => by
    simp only [N, List.mem_filter, List.mem_range, Bool.and_eq_true]
    constructor
    · rintro ⟨h1, h2, h3⟩; exact ⟨h1, (hr v u hv h1).1 h2, (hr u v h1 hv).1 h3⟩
    · rintro ⟨h1, h2, h3⟩; exact ⟨h1, (hr v u hv h1).2 h2, (hr u v h1 hv).2 h3⟩
  have hNl : N.length ≤ n := by
    have := List.length_filter_le (fun w => rr v w && rr w v) (List.range n)
    rw [List.length_range] at this
    exact this
  rw [hN]
  have key : M.TC (spec_l06Period a (toI N)) (fun q => ∃ q' : Nat, q = (q' : Int) ∧ LenP b n (fun l => ∃ u ∈ N.take N.length, [u] <+: l) 0 q') := by
    unfold spec_l06Period
    have hl : (toI N).length = N.length := by simp
    rw [hl]
    refine M.TC_bindC hb (M.TC_bind (M.TC_forN (fun k (s : Int) => ∃ q' : Nat, s = (q' : Int) ∧ LenP b n (fun l => ∃ u ∈ N.take k, [u] <+: l) 0 q') (by omega) ⟨0, rfl, by omega, fun d => by simp⟩ (fun k s hk hI => ?_)) (fun s hs => M.TC_ret hs))
    obtain ⟨q', rfl, h1, h2⟩ := hI
    have hu : pf N k < n := ((hNm _).1 (pf_mem hk)).1
    obtain ⟨q2, c2, k1, k2⟩ := len1_tc hs bl hu h1
    refine M.TC_bindC (toI_read hk) (M.TC_bindC c2 (M.TC_ret ⟨_, rfl, q2, rfl, k1, fun d => ?_⟩))
    have ht : N.take (k + 1) = N.take k ++ [pf N k] := by rw [List.take_add_one]; simp [pf, hk]
    rw [k2 d, h2 d, ht]
    constructor
    · rintro ⟨⟨a1, a2⟩, a3⟩
      refine ⟨a1, fun l w hw hx => ?_⟩
      obtain ⟨u, hu, hp⟩ := hx
      rw [List.mem_append, List.mem_singleton] at hu
      rcases hu with hu | rfl
      · exact a2 l w hw ⟨u, hu, hp⟩
      · exact a3 l w hw hp
    · rintro ⟨a1, a2⟩
      exact ⟨⟨a1, fun l w hw ⟨u, hu, hp⟩ => a2 l w hw ⟨u, List.mem_append.2 (.inl hu), hp⟩⟩, fun l w hw hp => a2 l w hw ⟨_, List.mem_append.2 (.inr (List.mem_singleton.2 rfl)), hp⟩⟩
  obtain ⟨_, cq, q, rfl, _, hq⟩ := key
  refine ⟨q, cq, fun d => ?_⟩
  rw [hq d, List.take_length]
  constructor
  · rintro ⟨_, h⟩ k w hw
    by_cases hk : k = 0
    · rw [hk]; exact Nat.dvd_zero d
    · obtain ⟨k', rfl⟩ : ∃ k', k = k' + 1 := ⟨k - 1, by omega⟩
      obtain ⟨r, hcl, hrl⟩ := hw.cl
      apply Classical.byContradiction
      intro hno
      obtain ⟨l', w', b1, b2, b3⟩ := hcl.written (P := fun k _ => ¬ d ∣ k) (fun k1 k2 _ _ hn => by
        by_cases q1 : d ∣ k1
        · by_cases q2 : d ∣ k2
          · exact absurd (Nat.dvd_add q1 q2) hn
          · exact .inr q2
        · exact .inl q1) _ rfl (by rw [List.length_cons, hrl]; exact hno)
      obtain ⟨u, r', e, _⟩ := b1.cl
      have hul := b3 u (by rw [e]; simp)
      have hun := hcl.lt u hul
      refine b2 (h l' w' b1 ⟨u, (hNm u).2 ⟨hun, hcl.reach (by simp) hul, hcl.reach hul (by simp)⟩, ⟨r', by rw [e]; rfl⟩⟩)
  · intro h
    refine ⟨Nat.dvd_zero d, fun l w hw hx => ?_⟩
    obtain ⟨u, hu, hp⟩ := hx
    obtain ⟨hun, h1, h2⟩ := (hNm u).1 hu
    obtain ⟨j, r, e, hwk⟩ := hw.cl.wlk
    obtain ⟨z, hz⟩ := hp
    have : j = u := by rw [e] at hz; simp at hz; exact hz.1.symm
    subst this
    exact (h.move hv hun h1 h2) _ _ hwk

structure Bfs (b : List (List Int)) (n : Nat) (N : List Nat) (c0 : Nat) (lev : Nat → Int) (Q : List Nat) (p : Nat) : Prop where
  nd : Q.Nodup
  sub : ∀ q ∈ Q, q ∈ N
  pos : ∀ v, v < n → (0 ≤ lev v ↔ v ∈ Q)
  lo : ∀ v, v < n → -1 ≤ lev v
  bd : ∀ v, v < n → lev v < Q.length
  wlk : ∀ v ∈ Q, ∃ w, Wlk b n c0 (lev v).toNat v w
  up : ∀ d, DivC b n c0 d → d ∣ p
  root : c0 ∈ Q ∧ lev c0 = 0
structure BfE (lev : Nat → Int) (Q : List Nat) (p : Nat) (lev' : Nat → Int) (Q' : List Nat) (p' : Nat) : Prop where
  pre : Q <+: Q'
  lev : ∀ v ∈ Q, lev' v = lev v
  p : p' ∣ p
def BfD (b : List (List Int)) (lev : Nat → Int) (Q : List Nat) (p f t : Nat) : Prop := arcE b f t → t ∈ Q ∧ (p : Int) ∣ lev f + 1 - lev t
theorem BfE.refl (lev : Nat → Int) (Q : List Nat) (p : Nat) : BfE lev Q p lev Q p := ⟨List.prefix_refl _, fun _ _ => rfl, Nat.dvd_refl _⟩
theorem BfE.trans {l1 l2 l3 : Nat → Int} {Q1 Q2 Q3 : List Nat} {p1 p2 p3 : Nat} (a : BfE l1 Q1 p1 l2 Q2 p2) (b : BfE l2 Q2 p2 l3 Q3 p3) : BfE l1 Q1 p1 l3 Q3 p3 :=
  ⟨a.pre.trans b.pre, fun v hv => (b.lev v (a.pre.subset hv)).trans (a.lev v hv), Nat.dvd_trans b.p a.p⟩
theorem BfD.keep {b : List (List Int)} {l1 l2 : Nat → Int} {Q1 Q2 : List Nat} {p1 p2 f t : Nat} (hf : f ∈ Q1) (d : BfD b l1 Q1 p1 f t) (e : BfE l1 Q1 p1 l2 Q2 p2) : BfD b l2 Q2 p2 f t := fun ha => by
  obtain ⟨h1, h2⟩ := d ha
  refine ⟨e.pre.subset h1, ?_⟩
  rw [e.lev f hf, e.lev t h1]
  exact Int.dvd_trans (Int.natCast_dvd_natCast.2 e.p) h2
theorem Bfs.len {b : List (List Int)} {n c0 p : Nat} {N : List Nat} {lev : Nat → Int} {Q : List Nat} (H : Bfs b n N c0 lev Q p) (hN : ∀ u ∈ N, u < n) : Q.length ≤ n := nodup_lt n _ H.nd fun v hv => hN v (H.sub v hv)
theorem Bfs.step {b : List (List Int)} {n c0 p : Nat} (hs : Shp b n) (bl : b.length = n) {N : List Nat} (hN : ∀ u ∈ N, u < n ∧ Rch (arcE b) n c0 u ∧ Rch (arcE b) n u c0) {lev : Nat → Int} {Q : List Nat} (H : Bfs b n N c0 lev Q p) {f t : Nat} (hf : f ∈ Q) (ht : t ∈ N) :
    ∃ lev' Q' p', Bfs b n N c0 lev' Q' p' ∧ BfE lev Q p lev' Q' p' ∧ BfD b lev' Q' p' f t ∧
      M.Conv (M.bind (M.idx b (t : Int)) (fun x10 => M.bind (M.idx x10 (f : Int)) (fun x11 => M.bind (M.ite (x11 == (-1000000000000000)) (M.ret (tab n lev, toI Q, (p : Int))) (M.bind (M.idx (tab n lev) (t : Int)) (fun x12 => M.ite (decide (x12 < 0)) (M.bind (M.idx (tab n lev) (f : Int)) (fun x13 => M.bind (M.idx (tab n lev) (t : Int)) (fun x14 => M.bind (M.upd (tab n lev) (t : Int) (w64 (x13 + 1))) (fun l4 => M.bind (M.app (toI Q) ([(t : Int)] : List Int)) (fun l5 => M.ret (l4, l5, (p : Int))))))) (M.bind (M.idx (tab n lev) (f : Int)) (fun x15 => M.bind (M.idx (tab n lev) (t : Int)) (fun x16 => M.bind (impl_absOf (w64 ((w64 (x15 + 1)) - x16))) (fun x17 => M.bind (impl_divisorOf x17 (p : Int)) (fun x18 => M.ret (tab n lev, toI Q, x18))))))))) (fun (s4 : (List Int) × (List Int) × Int) => M.ret (.inl (s4.1, s4.2.1, s4.2.2) : (List Int × List Int × Int) ⊕ (List Int × List Int × Int)))))) (.inl (tab n lev', toI Q', (p' : Int))) := by
  have hrows := hs.rows
  obtain ⟨htn, ht1, ht2⟩ := hN t ht
  have hfn := (hN f (H.sub f hf)).1
  have hlen := H.len fun u hu => (hN u hu).1
  have lf := (H.pos f hfn).2 hf
  have bf := H.bd f hfn
  have bt := H.bd t htn
  have lt := H.lo t htn
  obtain ⟨r, e1, _, e2⟩ := ent_read hs (i := t) (j := f) (by omega) hfn
  by_cases ha : entA b t f = -1000000000000000
  · refine ⟨lev, Q, p, H, .refl _ _ _, fun h => absurd ha h, M.Conv_bind e1 (M.Conv_bind e2 (M.Conv_bind (x := (tab n lev, toI Q, (p : Int))) (M.Conv_ite (fun _ => M.Conv_ret _) (fun q => by rw [ha] at q; simp at q)) (M.Conv_ret _)))⟩
  · by_cases hq : lev t < 0
    · -- a new node
      have htQ : t ∉ Q := fun h => by have := (H.pos t htn).2 h; omega
      have hne : ∀ v ∈ Q, v ≠ t := fun v hv e => htQ (e ▸ hv)
      let lev' : Nat → Int := fun v => if v = t then lev f + 1 else lev v
      have hl : ∀ v ∈ Q, lev' v = lev v := fun v hv => if_neg (hne v hv)
      have hlt : lev' t = lev f + 1 := if_pos rfl
      have hll : (Q ++ [t]).length = Q.length + 1 := by simp
      have H' : Bfs b n N c0 lev' (Q ++ [t]) p := by
        refine ⟨?_, fun q hq => ?_, fun v hv => ?_, fun v hv => ?_, fun v hv => ?_, fun v hv => ?_, H.up, ?_⟩
        · rw [List.nodup_append]
          exact ⟨H.nd, by simp, fun x hx y hy e => by simp at hy; subst hy; exact htQ (e ▸ hx)⟩
        · rcases List.mem_append.1 hq with hq | hq
          · exact H.sub q hq
          · rw [List.mem_singleton] at hq; rw [hq]; exact ht
        · rw [List.mem_append, List.mem_singleton]
          by_cases e : v = t
          · subst e; rw [hlt]; exact ⟨fun _ => .inr rfl, fun _ => by omega⟩
          · rw [show lev' v = lev v from if_neg e, H.pos v hv]
            exact ⟨.inl, fun h => h.resolve_right e⟩
        · by_cases e : v = t
          · subst e; rw [hlt]; omega
          · rw [show lev' v = lev v from if_neg e]; exact H.lo v hv
        · rw [hll]
          by_cases e : v = t
          · subst e; rw [hlt]; omega
          · rw [show lev' v = lev v from if_neg e]; have := H.bd v hv; omega
        · rcases List.mem_append.1 hv with hv | hv
          · rw [hl v hv]; exact H.wlk v hv
          · rw [List.mem_singleton] at hv
            subst hv
            obtain ⟨w, hw⟩ := H.wlk f hf
            have := Wlk.step _ f v w hw htn ha
            rw [hlt, show (lev f + 1).toNat = (lev f).toNat + 1 by omega]
            exact ⟨_, this⟩
        · exact ⟨List.mem_append.2 (.inl H.root.1), by rw [hl _ H.root.1]; exact H.root.2⟩
      refine ⟨lev', Q ++ [t], p, H', ⟨List.prefix_append _ _, hl, Nat.dvd_refl _⟩, fun _ => ⟨by simp, by rw [hl f hf, hlt]; simp⟩, ?_⟩
      refine M.Conv_bind e1 (M.Conv_bind e2 (M.Conv_bind (x := (tab n lev', toI (Q ++ [t]), (p : Int))) (M.Conv_ite (fun q => absurd (eq_of_beq q) ha) (fun _ => M.Conv_bind (idx_tab htn) (M.Conv_ite (fun _ => ?_) (fun q => by simp at q; omega)))) (M.Conv_ret _)))
      refine M.Conv_bind (idx_tab hfn) (M.Conv_bind (idx_tab htn) (M.Conv_bind (M.Conv_upd (by rw [tab_len]; exact htn)) (M.Conv_bind (M.Conv_app (by simp; omega)) ((M.Conv_ret _).of ?_))))
      rw [w64_eq _ (by omega)]
      have e3 : (tab n lev).set ((t : Int)).toNat (lev f + 1) = tab n lev' := by
        rw [Int.toNat_natCast]
        exact tab_set (by rw [hlt]) fun q _ hq => by show lev q = if q = t then _ else _; rw [if_neg hq]
      have e3' : (tab n lev).set t (lev f + 1) = tab n lev' := tab_set (by rw [hlt]) fun q _ hq => by show lev q = if q = t then _ else _; rw [if_neg hq]
      first
      | rw [e3']; simp
      | rw [e3]; simp
    · -- a node that is known
      have htQ : t ∈ Q := (H.pos t htn).1 (by omega)
      have e3 : w64 (w64 (lev f + 1) - lev t) = lev f + 1 - lev t := by rw [w64_eq (lev f + 1) (by omega), w64_eq _ (by omega)]
      have habs := absI_ok (a := lev f + 1 - lev t) (by omega)
      have hdiv := divisorI_gcd (a := (lev f + 1 - lev t).natAbs) (b := p)
      refine ⟨lev, Q, Nat.gcd (lev f + 1 - lev t).natAbs p, ⟨H.nd, H.sub, H.pos, H.lo, H.bd, H.wlk, fun d hd => ?_, H.root⟩, ⟨List.prefix_refl _, fun _ _ => rfl, Nat.gcd_dvd_right _ _⟩, fun _ => ⟨htQ, ?_⟩, ?_⟩
      · refine Nat.dvd_gcd ?_ (H.up d hd)
        obtain ⟨w1, c1⟩ := H.wlk f hf
        obtain ⟨w2, c2⟩ := H.wlk t htQ
        obtain ⟨q, w3, c3⟩ := ht2.wlk htn
        have d1 := hd _ _ ((Wlk.step _ f t w1 c1 htn ha).trans c3)
        have d2 := hd _ _ (c2.trans c3)
        have d1' : (d : Int) ∣ (((lev f).toNat + 1 + q : Nat) : Int) := Int.natCast_dvd_natCast.2 d1
        have d2' : (d : Int) ∣ (((lev t).toNat + q : Nat) : Int) := Int.natCast_dvd_natCast.2 d2
        have d3 := Int.dvd_sub d1' d2'
        rw [show (((lev f).toNat + 1 + q : Nat) : Int) - (((lev t).toNat + q : Nat) : Int) = lev f + 1 - lev t by omega] at d3
        exact Int.ofNat_dvd_left.1 d3
      · exact Int.ofNat_dvd_left.2 (Nat.gcd_dvd_left _ _)
      · refine M.Conv_bind e1 (M.Conv_bind e2 (M.Conv_bind (x := (tab n lev, toI Q, ((Nat.gcd (lev f + 1 - lev t).natAbs p : Nat) : Int))) (M.Conv_ite (fun q => absurd (eq_of_beq q) ha) (fun _ => M.Conv_bind (idx_tab htn) (M.Conv_ite (fun q => absurd (of_decide_eq_true q) hq) (fun _ => ?_)))) (M.Conv_ret _)))
        refine M.Conv_bind (idx_tab hfn) (M.Conv_bind (idx_tab htn) (M.Conv_bind (x := (((lev f + 1 - lev t).natAbs : Nat) : Int)) (by rw [e3]; exact habs) (M.Conv_bind hdiv (M.Conv_ret _))))
theorem periodOf_ok {b : List (List Int)} {n : Nat} (hs : Shp b n) (bl : b.length = n) {rr : Nat → Nat → Bool} (hr : ∀ v i, v < n → i < n → (rr v i = true ↔ Rch (arcE b) n v i)) {v : Nat} (hv : v < n) (hh : (compF rr n v).head? = some (v : Int)) :
    ∃ q : Nat, M.Conv (impl_periodOf b (compF rr n v)) (q : Int) ∧ ∀ d : Nat, d ∣ q ↔ DivC b n v d := by
  have hrows := hs.rows
  obtain ⟨N, hNdef⟩ : ∃ N : List Nat, N = (List.range n).filter fun w => rr v w && rr w v := ⟨_, rfl⟩
  have hN : compF rr n v = toI N := by rw [hNdef]; rfl
  have hNm : ∀ u, u ∈ N ↔ u < n ∧ Rch (arcE b) n v u ∧ Rch (arcE b) n u v := fun u => by
    rw [hNdef]
    simp only [List.mem_filter, List.mem_range, Bool.and_eq_true]
    constructor
    · rintro ⟨h1, h2, h3⟩; exact ⟨h1, (hr v u hv h1).1 h2, (hr u v h1 hv).1 h3⟩
    · rintro ⟨h1, h2, h3⟩; exact ⟨h1, (hr v u hv h1).2 h2, (hr u v h1 hv).2 h3⟩
  have hNl : N.length ≤ n := by
    rw [hNdef]
    have := List.length_filter_le (fun w => rr v w && rr w v) (List.range n)
    rw [List.length_range] at this
    exact this
  have hvN : v ∈ N := (hNm v).2 ⟨hv, .refl _ _ _, .refl _ _ _⟩
  rw [hN] at hh ⊢
  have hN' : ∀ u ∈ N, u < n ∧ Rch (arcE b) n v u ∧ Rch (arcE b) n u v := fun u hu => (hNm u).1 hu
  have h0 : M.Conv (M.idx (toI N) 0) (v : Int) := M.Conv_idx (i := 0) (by rw [← List.head?_eq_getElem?]; exact hh)
  let lev0 : Nat → Int := fun u => if u = v then 0 else -1
  have B0 : Bfs b n N v lev0 [v] 0 := by
    refine ⟨by simp, by simpa using hvN, fun u hu => ?_, fun u hu => ?_, fun u hu => ?_, fun u hu => ?_, fun d _ => Nat.dvd_zero d, by simp [lev0]⟩
    · simp only [lev0, List.mem_singleton]; split <;> simp_all
    · simp only [lev0]; split <;> omega
    · simp only [lev0, List.length_cons, List.length_nil]; split <;> omega
    · rw [List.mem_singleton] at hu
      subst hu
      simp only [lev0, if_pos]
      exact ⟨0, .nil hv⟩
  -- the whole search
  have hloop := M.TC_loop (ρ := List Int × List Int × Int × Int) (f := fun (s2 : (List Int) × (List Int) × Int × Int) => M.ite (decide (s2.2.2.2 < (s2.2.1.length : Int))) (M.bind (M.idx s2.2.1 s2.2.2.2) (fun x7 => M.bind (M.forI 0 ((toI N).length : Int) (fun s => s) (fun i2 => (fun (s3 : (List Int) × (List Int) × Int) => M.bind (M.idx (toI N) i2) (fun x9 => M.bind (M.idx b x9) (fun x10 => M.bind (M.idx x10 x7) (fun x11 => M.bind (M.ite (x11 == (-1000000000000000)) (M.ret (s3.1, s3.2.1, s3.2.2)) (M.bind (M.idx s3.1 x9) (fun x12 => M.ite (decide (x12 < 0)) (M.bind (M.idx s3.1 x7) (fun x13 => M.bind (M.idx s3.1 x9) (fun x14 => M.bind (M.upd s3.1 x9 (w64 (x13 + 1))) (fun l4 => M.bind (M.app s3.2.1 ([x9] : List Int)) (fun l5 => M.ret (l4, l5, s3.2.2)))))) (M.bind (M.idx s3.1 x7) (fun x15 => M.bind (M.idx s3.1 x9) (fun x16 => M.bind (impl_absOf (w64 ((w64 (x15 + 1)) - x16))) (fun x17 => M.bind (impl_divisorOf x17 s3.2.2) (fun x18 => M.ret (s3.1, s3.2.1, x18))))))))) (fun (s4 : (List Int) × (List Int) × Int) => M.ret (.inl (s4.1, s4.2.1, s4.2.2)))))))) (s2.1, s2.2.1, s2.2.2.1)) (fun x8 => M.ret (.inl (x8.1, x8.2.1, x8.2.2, (w64 (s2.2.2.2 + 1))))))) (M.ret (.inr (s2.1, s2.2.1, s2.2.2.1, s2.2.2.2))))
    (Post := fun y => ∃ (lev : Nat → Int) (Q : List Nat) (p : Nat), y.2.2.1 = (p : Int) ∧ Bfs b n N v lev Q p ∧ ∀ f ∈ Q, ∀ t ∈ N, BfD b lev Q p f t)
    (fun s => ∃ (lev : Nat → Int) (Q : List Nat) (p i : Nat), s = (tab n lev, toI Q, (p : Int), (i : Int)) ∧ Bfs b n N v lev Q p ∧ i ≤ Q.length ∧ ∀ j, j < i → ∀ t ∈ N, BfD b lev Q p (pf Q j) t) (fun s => n + 1 - s.2.2.2.toNat) (tab n lev0, toI [v], 0, 0) ⟨lev0, [v], 0, 0, rfl, B0, by simp, fun j hj => by omega⟩ (fun s hI => ?_)
  · unfold impl_periodOf
    rw [bl]
    have e1 : tab n (fun u => if u < n then (-1 : Int) else 0) = tab n fun _ => -1 := tab_congr fun i hi => if_pos hi
    have hset : M.Conv (M.forI 0 (n : Int) (fun s => s) (fun i1 => (fun (s1 : (List Int)) => M.bind (M.idx s1 i1) (fun x2 => M.bind (M.upd s1 i1 (-1)) (fun l2 => M.ret (.inl l2))))) (tab n fun _ => (0 : Int))) (tab n fun _ => -1) := by
      have e0 : (tab n fun _ => (0 : Int)) = tab n fun u => if u < 0 then (-1 : Int) else 0 := tab_congr fun i _ => by simp
      rw [e0, ← e1]
      refine Conv_forV (fun k => tab n fun u => if u < k then (-1 : Int) else 0) (by omega) fun i hi => ?_
      refine M.Conv_bind (idx_tab hi) (M.Conv_bind (M.Conv_upd (by rw [tab_len]; exact hi)) ((M.Conv_ret _).of (congrArg Sum.inl ?_)))
      exact tab_set (by simp) fun p _ hp => by
        have : (p < i) ↔ (p < i + 1) := by omega
        simp only [this]
    obtain ⟨y, cy, lev, Q, p, y1, H, hall⟩ := hloop
    refine ⟨p, ?_, fun d => ⟨fun hd => ?_, fun hd => H.up d hd⟩⟩
    · have hlv : (tab n fun _ => (-1 : Int)).set v 0 = tab n lev0 := tab_set (by simp [lev0]) fun q _ hq => by simp [lev0, hq]
      refine M.Conv_bind (x := tab n fun _ => (0 : Int)) ((M.Conv_make (by omega) (by omega)).of (by rw [Int.toNat_natCast, tab_rep])) ?_
      rw [tab_len]
      refine M.Conv_bind hset (M.Conv_bind h0 (M.Conv_bind (idx_tab hv) (M.Conv_bind (x := tab n lev0) ((M.Conv_upd (by rw [tab_len]; exact hv)).of hlv) (M.Conv_bind h0 (M.Conv_bind cy ((M.Conv_ret _).of y1))))))
    · -- the period divides the length of every closed walk
      have inQ : ∀ {k i : Nat}, RK (arcE b) n v k i → Rch (arcE b) n i v → i ∈ Q := fun {k i} hk => by
        induction hk with
        | nil k => intro _; exact H.root.1
        | step k j i hj hjn hin he ih =>
          intro hb
          have hjv : Rch (arcE b) n j v := ((Rch.refl _ _ _).step hjn hin he).trans hb
          exact (hall j (ih hjv) i ((hNm i).2 ⟨hin, Rch.step ⟨k, hj⟩ hjn hin he, hb⟩) he).1
      intro k w hw
      have walk : ∀ {k i : Nat} {w : Int}, Wlk b n v k i w → Rch (arcE b) n i v → (p : Int) ∣ lev v + (k : Int) - lev i := fun {k i w} hw => by
        induction hw with
        | nil _ => intro _; simp
        | step k i i' w hw hi ha ih =>
          intro hb
          have hiv : Rch (arcE b) n i v := ((Rch.refl _ _ _).step hw.lt.2 hi ha).trans hb
          obtain ⟨k1, hk1⟩ := hw.rch
          have hiQ := inQ hk1 hiv
          have d1 := ih hiv
          have d2 := (hall i hiQ i' ((hNm i').2 ⟨hi, (Wlk.step k i i' w hw hi ha).rch, hb⟩) ha).2
          have := Int.dvd_add d1 d2
          rw [show lev v + (k : Int) - lev i + (lev i + 1 - lev i') = lev v + ((k + 1 : Nat) : Int) - lev i' by omega] at this
          exact this
      have := walk hw (.refl _ _ _)
      rw [show lev v + (k : Int) - lev v = (k : Int) by omega] at this
      exact Nat.dvd_trans hd (Int.natCast_dvd_natCast.1 this)
  · obtain ⟨lev, Q, p, i, rfl, H, hi, hall⟩ := hI
    have hlen := H.len fun u hu => (hN' u hu).1
    have hql : (toI Q).length = Q.length := by simp
    refine M.TC_ite (fun t => ?_) (fun t => M.TC_ret (.inr ⟨_, rfl, lev, Q, p, rfl, H, fun f hf t' ht' => ?_⟩))
    · have t := of_decide_eq_true t
      simp only [hql] at t
      have hiQ : i < Q.length := by omega
      have hfQ := pf_mem hiQ
      refine M.TC_bindC (toI_read hiQ) (M.TC_bind (Mid := fun (y : List Int × List Int × Int) => ∃ (lev' : Nat → Int) (Q' : List Nat) (p' : Nat), y = (tab n lev', toI Q', (p' : Int)) ∧ Bfs b n N v lev' Q' p' ∧ BfE lev Q p lev' Q' p' ∧ ∀ t ∈ N, BfD b lev' Q' p' (pf Q i) t) ?_ fun y hy => ?_)
      · have hl : (toI N).length = N.length := by simp
        rw [hl]
        have := M.TC_forN (n := N.length) (f := fun i2 => (fun (s3 : (List Int) × (List Int) × Int) => M.bind (M.idx (toI N) i2) (fun x9 => M.bind (M.idx b x9) (fun x10 => M.bind (M.idx x10 (pf Q i : Int)) (fun x11 => M.bind (M.ite (x11 == (-1000000000000000)) (M.ret (s3.1, s3.2.1, s3.2.2)) (M.bind (M.idx s3.1 x9) (fun x12 => M.ite (decide (x12 < 0)) (M.bind (M.idx s3.1 (pf Q i : Int)) (fun x13 => M.bind (M.idx s3.1 x9) (fun x14 => M.bind (M.upd s3.1 x9 (w64 (x13 + 1))) (fun l4 => M.bind (M.app s3.2.1 ([x9] : List Int)) (fun l5 => M.ret (l4, l5, s3.2.2)))))) (M.bind (M.idx s3.1 (pf Q i : Int)) (fun x15 => M.bind (M.idx s3.1 x9) (fun x16 => M.bind (impl_absOf (w64 ((w64 (x15 + 1)) - x16))) (fun x17 => M.bind (impl_divisorOf x17 s3.2.2) (fun x18 => M.ret (s3.1, s3.2.1, x18))))))))) (fun (s4 : (List Int) × (List Int) × Int) => M.ret (.inl (s4.1, s4.2.1, s4.2.2))))))))
          (s := (tab n lev, toI Q, (p : Int))) (fun m y => ∃ (lev' : Nat → Int) (Q' : List Nat) (p' : Nat), y = (tab n lev', toI Q', (p' : Int)) ∧ Bfs b n N v lev' Q' p' ∧ BfE lev Q p lev' Q' p' ∧ ∀ t ∈ N.take m, BfD b lev' Q' p' (pf Q i) t) (by omega) ⟨lev, Q, p, rfl, H, .refl _ _ _, by simp⟩ (fun m y hm hI => ?_)
        · rw [List.take_length] at this; exact this
        · obtain ⟨l1, Q1, p1, rfl, H1, E1, D1⟩ := hI
          obtain ⟨l2, Q2, p2, H2, E2, D2, c⟩ := H1.step hs bl hN' (E1.pre.subset hfQ) (pf_mem hm)
          refine M.TC_bindC (toI_read hm) (M.TC.mono (M.Conv.tc c (Post := fun y => y = Sum.inl (tab n l2, toI Q2, (p2 : Int))) rfl) fun y hy => ⟨_, hy, l2, Q2, p2, rfl, H2, E1.trans E2, fun t ht => ?_⟩)
          have et : N.take (m + 1) = N.take m ++ [pf N m] := by rw [List.take_add_one]; simp [pf, hm]
          rw [et, List.mem_append, List.mem_singleton] at ht
          rcases ht with ht | rfl
          · exact (D1 t ht).keep (E1.pre.subset hfQ) E2
          · exact D2
      · obtain ⟨l2, Q2, p2, rfl, H2, E2, D2⟩ := hy
        have hw : w64 ((i : Int) + 1) = ((i + 1 : Nat) : Int) := by rw [w64_eq _ (by omega)]; omega
        have hl2 := E2.pre.length_le
        have hpf : ∀ j, j < Q.length → pf Q2 j = pf Q j := fun j hj => by
          obtain ⟨z, hz⟩ := E2.pre
          unfold pf
          rw [← hz, List.getElem?_append_left hj]
        refine M.TC_ret (.inl ⟨_, rfl, ⟨l2, Q2, p2, i + 1, by simp only [hw], H2, by omega, fun j hj t2 ht2 => ?_⟩, ?_⟩)
        · rw [hpf j (by omega)]
          by_cases e : j = i
          · subst e; exact D2 t2 ht2
          · exact (hall j (by omega) t2 ht2).keep (pf_mem (by omega)) E2
        · simp only [hw]
          omega
    · have t := of_decide_eq_false t
      simp only [hql] at t
      obtain ⟨j, hj, rfl⟩ := List.getElem_of_mem hf
      have := hall j (by omega) t' ht'
      rw [show pf Q j = Q[j] by simp [pf, hj]] at this
      exact this

theorem keepF_mem {rr : Nat → Nat → Bool} {c : Nat → Nat → Bool} {n : Nat} {x : List Int} (h : x ∈ keepF rr c n) : ∃ v, v < n ∧ x = compF rr n v ∧ x.head? = some (v : Int) ∧ ∃ i, i < n ∧ c v i = true := by
  unfold keepF at h
  obtain ⟨v, hv, rfl⟩ := List.mem_map.1 h
  rw [List.mem_filter, List.mem_range, Bool.and_eq_true, List.any_eq_true] at hv
  obtain ⟨h1, h2, i, hi, hc⟩ := hv
  exact ⟨v, h1, rfl, eq_of_beq h2, i, List.mem_range.1 hi, hc⟩
theorem keepF_len {rr : Nat → Nat → Bool} {c : Nat → Nat → Bool} {n : Nat} : (keepF rr c n).length ≤ n := by
  unfold keepF
  rw [List.length_map]
  exact Nat.le_trans (List.length_filter_le _ _) (by simp)
theorem period_both {a b : List (List Int)} {n : Nat} (hb : M.Conv (spec_l06Matrix a) b) (hs : Shp b n) (bl : b.length = n) {rr : Nat → Nat → Bool} (hr : ∀ v i, v < n → i < n → (rr v i = true ↔ Rch (arcE b) n v i)) {v : Nat} (hv : v < n) (hh : (compF rr n v).head? = some (v : Int)) :
    ∃ q : Nat, M.Conv (spec_l06Period a (compF rr n v)) (q : Int) ∧ M.Conv (impl_periodOf b (compF rr n v)) (q : Int) ∧ ∀ d : Nat, d ∣ q ↔ DivC b n v d := by
  obtain ⟨q1, c1, d1⟩ := l06Period_ok hb hs bl hr hv
  obtain ⟨q2, c2, d2⟩ := periodOf_ok hs bl hr hv hh
  have e : q1 = q2 := Nat.dvd_antisymm ((d2 _).2 ((d1 _).1 (Nat.dvd_refl _))) ((d1 _).2 ((d2 _).1 (Nat.dvd_refl _)))
  exact ⟨q1, c1, e ▸ c2, d1⟩
theorem compF_eq {rr : Nat → Nat → Bool} {n : Nat} (H2 : ∀ u v w, u < n → v < n → w < n → rr u v = true → rr v w = true → rr u w = true) {v u : Nat} (hv : v < n) (hu : u < n) (h : rr v u = true) (h' : rr u v = true) : compF rr n v = compF rr n u := by
  unfold compF
  congr 1
  refine List.filter_congr fun w hw => ?_
  have hw := List.mem_range.1 hw
  rw [Bool.eq_iff_iff, Bool.and_eq_true, Bool.and_eq_true]
  exact ⟨fun ⟨a, b⟩ => ⟨H2 u v w hu hv hw h' a, H2 w v u hw hv hu b h⟩, fun ⟨a, b⟩ => ⟨H2 v u w hv hu hw h a, H2 w u v hw hu hv b h'⟩⟩
theorem CritP.cwalk {a : List (List Int)} (hm : Mat a a.length) {l : List Nat} {W : Int} {r : TRatio} {S : List (List Int)} (h : CritP a l W r S) {v : Nat} :
    ∀ {m x : Nat} {w1 : Int}, Wlk (matF a.length a.length (shF a r.Den r.Num)) a.length v m x w1 → ∀ {m2 : Nat} {w2 : Int}, Wlk (matF a.length a.length (shF a r.Den r.Num)) a.length x m2 v w2 → w1 + w2 = 0 → ∃ w', Wlk (matF a.length a.length (critF (matF a.length a.length (shF a r.Den r.Num)) S a)) a.length v m x w' := by
  intro m x w1 h1
  induction h1 with
  | nil hv => intro m2 w2 _ _; exact ⟨0, .nil hv⟩
  | step m y x w0 hw hx ha ih =>
    intro m2 w2 h2 hsum
    have hy := hw.lt.2
    have hrest : Wlk (matF a.length a.length (shF a r.Den r.Num)) a.length y (1 + m2) v (entA (matF a.length a.length (shF a r.Den r.Num)) x y + w2) := by
      have := Wlk.step 0 y x 0 (.nil hy) hx ha
      rw [Int.zero_add] at this
      exact Wlk.trans (k := 1) this h2
    obtain ⟨w', hw'⟩ := ih hrest (by omega)
    obtain ⟨e1, e2⟩ := h.ent hm hx hy
    have hback := h2.trans hw
    obtain ⟨c1, c2⟩ := h.st.cpl y x _ _ hback
    obtain ⟨k, hk⟩ := (h.st.snd y x hy hx).resolve_left c1
    have hcl := h.np.closed (Wlk.step k y x _ hk hx ha)
    exact ⟨_, .step _ _ _ _ hw' hx ((h.arc hm hx hy).2 ((critB_iff e1 e2).2 ⟨ha, c1, by omega⟩))⟩
theorem CritP.there {a : List (List Int)} (hm : Mat a a.length) {l : List Nat} {W : Int} {r : TRatio} {S : List (List Int)} (h : CritP a l W r S) {v : Nat} :
    ∀ {m x : Nat} {w' : Int}, Wlk (matF a.length a.length (critF (matF a.length a.length (shF a r.Den r.Num)) S a)) a.length v m x w' → ∃ w1 m2, Wlk (matF a.length a.length (shF a r.Den r.Num)) a.length v m x w1 ∧ Wlk (matF a.length a.length (shF a r.Den r.Num)) a.length x m2 v (-w1) := by
  intro m x w' hw
  induction hw with
  | nil hv => exact ⟨0, 0, .nil hv, by simpa using Wlk.nil hv⟩
  | step m y x w0 hw hx ha ih =>
    have hy := hw.lt.2
    obtain ⟨w1, m2, f1, f2⟩ := ih
    obtain ⟨e1, e2⟩ := h.ent hm hx hy
    obtain ⟨q1, q2, q3⟩ := (critB_iff e1 e2).1 ((h.arc hm hx hy).1 ha)
    obtain ⟨k, hk⟩ := (h.st.snd y x hy hx).resolve_left q2
    refine ⟨_, k + m2, .step _ _ _ _ f1 hx q1, ?_⟩
    have := hk.trans f2
    rw [show entA S y x + -w1 = -(w1 + entA (matF a.length a.length (shF a r.Den r.Num)) x y) by omega] at this
    exact this
theorem NoPos.le0 {a : List (List Int)} {n : Nat} (hp : NoPos a n) {j k : Nat} {w : Int} (h : Wlk a n j k j w) : w ≤ 0 := by
  cases k with
  | zero => cases h; omega
  | succ k => exact hp.closed h
/-- closed critical walks are the closed walks of weight 0 -/
theorem CritP.closed {a : List (List Int)} (hm : Mat a a.length) {l : List Nat} {W : Int} {r : TRatio} {S : List (List Int)} (h : CritP a l W r S) {v m : Nat} :
    (∃ w, Wlk (matF a.length a.length (critF (matF a.length a.length (shF a r.Den r.Num)) S a)) a.length v m v w) ↔ Wlk (matF a.length a.length (shF a r.Den r.Num)) a.length v m v 0 := by
  constructor
  · rintro ⟨w, hw⟩
    obtain ⟨w1, m2, f1, f2⟩ := h.there hm hw
    have := h.np.le0 f1
    have := h.np.le0 f2
    have : w1 = 0 := by omega
    rw [this] at f1; exact f1
  · exact fun hw => h.cwalk hm hw (.nil hw.lt.1) (by omega)
theorem exists_min {P : Nat → Prop} (h : ∃ n, P n) : ∃ n, P n ∧ ∀ m, m < n → ¬ P m := by
  obtain ⟨n, hn⟩ := h
  induction n using Nat.strongRecOn with
  | _ n ih =>
    by_cases hq : ∃ m, m < n ∧ P m
    · obtain ⟨m, hm, hp⟩ := hq
      exact ih m hm hp
    · exact ⟨n, hn, fun m hm hp => hq ⟨m, hm, hp⟩⟩
theorem residue {H : Nat → Prop} (hadd : ∀ x y, H x → H y → H (x + y)) {c : Nat} (hc : 1 ≤ c) (hne : ∃ x, 1 ≤ x ∧ H x) {G : Nat} (hG1 : 1 ≤ G) (hG : ∀ d, (∀ x, H x → d ∣ x) → d ∣ G) : ∃ y m, H y ∧ y = G + m * c := by
  have hmul : ∀ k x, 1 ≤ k → H x → H (k * x) := by
    intro k x hk hx
    induction k with
    | zero => omega
    | succ k ih =>
      by_cases e : k = 0
      · subst e; simpa using hx
      · rw [Nat.succ_mul]; exact hadd _ _ (ih (by omega)) hx
  have hmul0 : ∀ k x y, H x → H y → H (y + k * x) := fun k x y hx hy => by
    by_cases e : k = 0
    · subst e; simpa using hy
    · exact hadd _ _ hy (hmul k x (by omega) hx)
  obtain ⟨x0, hx0, hH0⟩ := hne
  obtain ⟨r, ⟨hr1, x, hx1, hx, i, j, hij⟩, hrmin⟩ := exists_min (P := fun r => 1 ≤ r ∧ ∃ x, 1 ≤ x ∧ H x ∧ ∃ i j : Nat, x + i * c = r + j * c) ⟨c, hc, c * x0, Nat.mul_pos hc hx0, hmul c x0 hc hH0, 1, x0, by rw [Nat.one_mul, Nat.mul_comm x0 c, Nat.add_comm]⟩
  have hdvd : ∀ y, H y → r ∣ y := fun y hy => by
    apply Classical.byContradiction
    intro hno
    have hr' : y % r ≠ 0 := fun e => hno (Nat.dvd_of_mod_eq_zero e)
    have hy1 : 1 ≤ y := by
      rcases Nat.eq_zero_or_pos y with e | e
      · subst e; simp at hno
      · exact e
    refine hrmin (y % r) (Nat.mod_lt _ hr1) ⟨by omega, y + (y / r * (c - 1)) * x, by omega, hmul0 _ _ _ hx hy, (y / r * (c - 1)) * i, r * (y / r) + (y / r * (c - 1)) * j, ?_⟩
    have hy2 := Nat.div_add_mod y r
    have h9 : (y / r * (c - 1)) * x + (y / r * (c - 1)) * i * c = (y / r * (c - 1)) * r + (y / r * (c - 1)) * j * c := by
      have : (y / r * (c - 1)) * (x + i * c) = (y / r * (c - 1)) * (r + j * c) := by rw [hij]
      rw [Nat.mul_add, Nat.mul_add, ← Nat.mul_assoc, ← Nat.mul_assoc] at this
      exact this
    have h10 : (y / r * (c - 1)) * r + r * (y / r) = r * (y / r) * c := by
      obtain ⟨c', rfl⟩ : ∃ c', c = c' + 1 := ⟨c - 1, by omega⟩
      rw [Nat.add_sub_cancel]
      grind
    rw [Nat.add_mul]
    omega
  obtain ⟨t, rfl⟩ := hG r hdvd
  have ht : 1 ≤ t := by
    rcases Nat.eq_zero_or_pos t with e | e
    · subst e; simp at hG1
    · exact e
  -- t x is r t, up to multiples of c
  have h1 : t * x + t * i * c = r * t + t * j * c := by
    have := congrArg (fun z => t * z) hij
    simp only [Nat.mul_add, ← Nat.mul_assoc] at this
    rw [this, Nat.mul_comm t r]
  have htx : 1 ≤ t * x := Nat.mul_pos ht hx1
  refine ⟨t * x + (t * i * c) * (t * x), t * j + t * i * (t * x - 1), hmul0 _ _ _ (hmul t x ht hx) (hmul t x ht hx), ?_⟩
  generalize t * x = z at *
  obtain ⟨z', rfl⟩ : ∃ z', z = z' + 1 := ⟨z - 1, by omega⟩
  rw [Nat.add_sub_cancel, Nat.add_mul, Nat.mul_add, Nat.mul_one]
  have : t * i * c * z' = t * i * z' * c := by rw [Nat.mul_assoc, Nat.mul_comm c z', ← Nat.mul_assoc]
  omega
theorem long_walk {b : List (List Int)} {n : Nat} {B : Int} (hp : NoPos b n) (hB : Ent b n B) (h0 : 0 ≤ B) (hn : 1 ≤ n) : ∀ (N : Nat) {l : List Nat} {w : Int}, l.length = N + 1 → Chn b n l w → (∀ x ∈ l, ∀ k, ¬ Wlk b n x (k + 1) x 0) → (n : Int) * w + (N : Int) ≤ (n : Int) * (B * (n : Int)) + (n : Int) := by
  intro N
  induction N using Nat.strongRecOn with
  | _ N ih =>
    intro l w hl hc hno
    by_cases hN : N < n
    · have hb := hc.bd hB h0
      rw [hl] at hb
      have h1 : B * ((N + 1 - 1 : Nat) : Int) ≤ B * (n : Int) := Int.mul_le_mul_of_nonneg_left (by omega) h0
      have h2 : (n : Int) * w ≤ (n : Int) * (B * (n : Int)) := Int.mul_le_mul_of_nonneg_left (by omega) (by omega)
      omega
    · have hnd : ¬ (l.take (n + 1)).Nodup := fun hd => by
        have := nodup_lt n _ hd fun x hx => hc.lt x (List.mem_of_mem_take hx)
        rw [List.length_take] at this
        omega
      obtain ⟨x, v, y, z, e⟩ := dup_of hnd
      have hyl : y.length + 1 ≤ n := by
        have := congrArg List.length e
        simp only [List.length_take, List.length_append, List.length_cons] at this
        omega
      have el : l = x ++ v :: (y ++ v :: (z ++ l.drop (n + 1))) := by
        have := List.take_append_drop (n + 1) l
        rw [e] at this
        exact this.symm.trans (by simp)
      rw [el] at hc
      obtain ⟨w1, w2, rfl, c1, c2⟩ := hc.split
      have c2' : Chn b n ((v :: y) ++ v :: (z ++ l.drop (n + 1))) w2 := by simpa using c2
      obtain ⟨w3, w4, rfl, c3, c4⟩ := c2'.split
      have hcl : Wlk b n v (y.length + 1) v w3 := Wlk.of_chn _ c3 rfl (by simp)
      have hvl : v ∈ l := by rw [el]; simp
      have hneg : w3 ≤ -1 := by
        have h1 := hp.le0 hcl
        have h2 : w3 ≠ 0 := fun e => hno v hvl y.length (by rw [e] at hcl; exact hcl)
        omega
      have hlen : (x ++ v :: (z ++ l.drop (n + 1))).length = (N - (y.length + 1)) + 1 := by
        have := congrArg List.length el
        simp only [List.length_append, List.length_cons] at this ⊢
        omega
      have hmem : ∀ u ∈ x ++ v :: (z ++ l.drop (n + 1)), u ∈ l := fun u hu => by
        rw [el]
        simp only [List.mem_append, List.mem_cons] at hu ⊢
        rcases hu with hu | hu | hu | hu
        · exact .inl hu
        · exact .inr (.inl hu)
        · exact .inr (.inr (.inr (.inr (.inl hu))))
        · exact .inr (.inr (.inr (.inr (.inr hu))))
      have hle : y.length + 1 ≤ N := by
        have := congrArg List.length el
        simp only [List.length_append, List.length_cons] at this
        omega
      have := ih (N - (y.length + 1)) (by omega) hlen (Chn.append c4 c1) (fun u hu => hno u (hmem u hu))
      have h3 : (n : Int) * w3 ≤ (n : Int) * (-1) := Int.mul_le_mul_of_nonneg_left hneg (by omega)
      rw [Int.mul_add, Int.mul_add] at *
      omega
theorem visits {b : List (List Int)} {n : Nat} {B : Int} (hp : NoPos b n) (hB : Ent b n B) (h0 : 0 ≤ B) (hn : 1 ≤ n) {j N i : Nat} {w : Int} (h : Wlk b n j N i w) (hN : (n : Int) * (B * (n : Int)) + (n : Int) < (n : Int) * w + (N : Int)) :
    ∃ v N1 N2 w1 w2 k, N = N1 + N2 ∧ w = w1 + w2 ∧ Wlk b n j N1 v w1 ∧ Wlk b n v N2 i w2 ∧ Wlk b n v (k + 1) v 0 := by
  obtain ⟨x, hc, hh, hl⟩ := h.chn
  apply Classical.byContradiction
  intro hno
  have := long_walk hp hB h0 hn N (l := x ++ [i]) (by simp [hl]) hc fun v hv k hk => ?_
  · omega
  · obtain ⟨p, q, e⟩ := List.append_of_mem hv
    rw [e] at hc
    obtain ⟨w1, w2, rfl, c1, c2⟩ := hc.split
    rcases List.eq_nil_or_concat (v :: q) with e1 | ⟨y, t, e1⟩
    · cases e1
    · have e1 : v :: q = y ++ [t] := by simpa using e1
      have e2 : x ++ [i] = (p ++ y) ++ [t] := by rw [e, e1, List.append_assoc]
      have e3 := List.append_inj' e2 rfl
      have ht : t = i := by have := e3.2; simp at this; exact this.symm
      subst ht
      have hlen : N = p.length + y.length := by rw [← hl, e3.1, List.length_append]
      refine hno ⟨v, p.length, y.length, w1, w2, k, hlen, rfl, Wlk.of_chn _ c1 ?_ rfl, Wlk.of_chn _ (by rw [e1] at c2; exact c2) (by rw [← e1]; rfl) rfl, hk⟩
      have : (p ++ [v]).head? = (x ++ [t]).head? := by
        rw [e]
        cases p <;> rfl
      rw [this]; exact hh

theorem pw_walk {a : List (List Int)} (hq : sqB a = true) : ∀ m, okTo a (unitM a.length) m → ∀ i j, i < a.length → j < a.length → (entA (pw a (unitM a.length) m) i j = -1000000000000000 ∨ Wlk a a.length j m i (entA (pw a (unitM a.length) m) i j)) ∧ ∀ w, Wlk a a.length j m i w → entA (pw a (unitM a.length) m) i j ≠ -1000000000000000 ∧ w ≤ entA (pw a (unitM a.length) m) i j
  | 0, _, i, j, hi, hj => by
    have hz : entA (pw a (unitM a.length) 0) i j = if i = j then 0 else -1000000000000000 := unit_ent hi hj
    rw [hz]
    constructor
    · by_cases e : i = j
      · subst e; rw [if_pos rfl]; exact .inr (.nil hi)
      · rw [if_neg e]; exact .inl rfl
    · intro w hw
      cases hw with
      | nil _ => rw [if_pos rfl]; exact ⟨by omega, by omega⟩
  | m + 1, ok, i, j, hi, hj => by
    have hs := ser_pow hq
    have ih := fun i hi => pw_walk hq m (ok.mono (by omega)) i j hi hj
    have hB := mat_ent hs.mat
    have hP := hs.pm ok (i := m) (by omega)
    have hlen := (hs.shp m).2
    have bP : ∀ p q, p < a.length → q < a.length → entA (pw a (unitM a.length) m) p q = -1000000000000000 ∨ (-1000000 ≤ entA (pw a (unitM a.length) m) p q ∧ entA (pw a (unitM a.length) m) p q ≤ 1000000) := fun p q hp hq => val_cases (ent_val hP (by omega) hq).2.2
    have key : DotP (entA a i) (fun q => entA (pw a (unitM a.length) m) q j) a.length (entA (pw a (unitM a.length) (m + 1)) i j) := mul_dot hs.mat.shp (hs.shp m).1 hlen (fun i j hi hj => by
      have := hB i j hi hj
      unfold Bd; omega) (fun p q hp hq => by
      have := bP p q hp hq
      unfold Bd; omega) hi hj
    constructor
    · rcases key.on with e | ⟨q, hq, e1, e2, e3⟩
      · exact .inl e
      · right
        have hw := (ih q hq).1.resolve_left e2
        rw [e3, Int.add_comm]
        exact .step m q i _ hw hi e1
    · intro w hw
      cases hw with
      | step _ i1 _ w1 hw1 _ ha =>
        obtain ⟨c1, c2⟩ := (ih i1 hw1.lt.2).2 w1 hw1
        have c3 := key.up i1 hw1.lt.2 ha c1
        have c4 := (hB i i1 hi hw1.lt.2).resolve_left ha
        have c5 := (bP i1 j hw1.lt.2 hj).resolve_left c1
        try simp only at c2 c3 ⊢
        omega
/-- walks of N arcs lead to walks of M arcs that are better by g -/
def UpW (a : List (List Int)) (n N M : Nat) (g : Int) : Prop := ∀ j i w, Wlk a n j N i w → ∃ w', Wlk a n j M i w' ∧ w + g ≤ w'
theorem UpW.ext {a : List (List Int)} {n N M : Nat} {g : Int} (h : UpW a n N M g) (t : Nat) : UpW a n (N + t) (M + t) g := fun j i w hw => by
  obtain ⟨x, w1, w2, h1, h2, rfl⟩ := hw.split N t
  obtain ⟨w', h3, h4⟩ := h j x w1 h1
  exact ⟨w' + w2, h3.trans h2, by omega⟩
theorem UpW.trans {a : List (List Int)} {n N M K : Nat} {g g' : Int} (h : UpW a n N M g) (h' : UpW a n M K g') : UpW a n N K (g + g') := fun j i w hw => by
  obtain ⟨w1, h1, h2⟩ := h j i w hw
  obtain ⟨w2, h3, h4⟩ := h' j i w1 h1
  exact ⟨w2, h3, by omega⟩
theorem UpW.many {a : List (List Int)} {n k c : Nat} {g : Int} (h : UpW a n k (k + c) g) (t : Nat) : ∀ m : Nat, UpW a n (k + t) (k + t + m * c) ((m : Int) * g)
  | 0 => fun j i w hw => ⟨w, by simpa using hw, by simp⟩
  | m + 1 => by
    have h1 := h.many t m
    have h2 := h.ext (t + m * c)
    rw [show k + c + (t + m * c) = k + t + (m + 1) * c by rw [Nat.add_mul]; omega, show k + (t + m * c) = k + t + m * c by omega] at h2
    have := h1.trans h2
    rw [show (m : Int) * g + g = ((m + 1 : Nat) : Int) * g by rw [Int.natCast_add, Int.add_mul]; simp] at this
    exact this
theorem UpW.manyD {a : List (List Int)} {n k c : Nat} {g : Int} (h : UpW a n (k + c) k g) (t : Nat) : ∀ m : Nat, UpW a n (k + t + m * c) (k + t) ((m : Int) * g)
  | 0 => fun j i w hw => ⟨w, by simpa using hw, by simp⟩
  | m + 1 => by
    have h1 := h.manyD t m
    have h2 := h.ext (t + m * c)
    rw [show k + c + (t + m * c) = k + t + (m + 1) * c by rw [Nat.add_mul]; omega, show k + (t + m * c) = k + t + m * c by omega] at h2
    have := h2.trans h1
    rw [show g + (m : Int) * g = ((m + 1 : Nat) : Int) * g by rw [Int.natCast_add, Int.add_mul]; simp; omega] at this
    exact this
/-- a shift of powers, told of walks -/
theorem shift_walk {a : List (List Int)} (hq : sqB a = true) {N M : Nat} (okN : okTo a (unitM a.length) N) (okM : okTo a (unitM a.length) M) (g : Int) : ShiftM (pw a (unitM a.length) N) (pw a (unitM a.length) M) a.length a.length g ↔ UpW a a.length N M g ∧ UpW a a.length M N (-g) := by
  constructor
  · intro h
    constructor
    · intro j i w hw
      obtain ⟨hj, hi⟩ := hw.lt
      obtain ⟨c1, c2⟩ := (pw_walk hq N okN i j hi hj).2 w hw
      rcases h i j hi hj with e | ⟨_, e2, e3⟩
      · exact absurd e.1 c1
      · exact ⟨_, (pw_walk hq M okM i j hi hj).1.resolve_left e2, by omega⟩
    · intro j i w hw
      obtain ⟨hj, hi⟩ := hw.lt
      obtain ⟨c1, c2⟩ := (pw_walk hq M okM i j hi hj).2 w hw
      rcases h i j hi hj with e | ⟨e1, _, e3⟩
      · exact absurd e.2 c1
      · exact ⟨_, (pw_walk hq N okN i j hi hj).1.resolve_left e1, by omega⟩
  · rintro ⟨u, d⟩ i j hi hj
    obtain ⟨n1, n2⟩ := pw_walk hq N okN i j hi hj
    obtain ⟨m1, m2⟩ := pw_walk hq M okM i j hi hj
    by_cases e : entA (pw a (unitM a.length) N) i j = -1000000000000000
    · left
      refine ⟨e, ?_⟩
      apply Classical.byContradiction
      intro e2
      obtain ⟨w', hw', _⟩ := d j i _ (m1.resolve_left e2)
      exact (n2 w' hw').1 e
    · right
      obtain ⟨w', h1, h2⟩ := u j i _ (n1.resolve_left e)
      obtain ⟨q1, q2⟩ := m2 w' h1
      obtain ⟨w2, h3, h4⟩ := d j i _ (m1.resolve_left q1)
      have := (n2 w2 h3).2
      exact ⟨e, q1, by omega⟩
theorem Wlk.reps {a : List (List Int)} {n v e : Nat} {s : Int} (h : Wlk a n v e v s) (y : Nat) : Wlk a n v (y * e) v ((y : Int) * s) := h.rep y
theorem growth_mean {a : List (List Int)} {n : Nat} {l : List Nat} {W : Int} (h : MaxC a n l W) {k c : Nat} {g : Int} (hc : 1 ≤ c) (u : UpW a n k (k + c) g) (d : UpW a n (k + c) k (-g)) : g * (l.length : Int) = (c : Int) * W := by
  obtain ⟨v, r, e, hw⟩ := h.wc.cl.wlk
  have hL : 1 ≤ l.length := by rw [e]; simp
  have hmax : ∀ {m w}, 1 ≤ m → Wlk a n v m v w → w * (l.length : Int) ≤ W * (m : Int) := fun {m w} hm hw => by
    obtain ⟨m', rfl⟩ : ∃ m', m = m' + 1 := ⟨m - 1, by omega⟩
    obtain ⟨r', h1, h2⟩ := hw.cl
    have := h.max _ _ h1
    rw [List.length_cons, h2] at this
    exact this
  generalize l.length = L at *
  -- from k arcs on
  have hk : k ≤ (k + 1) * L := by
    have := Nat.mul_le_mul_left (k + 1) hL
    omega
  obtain ⟨t, ht⟩ : ∃ t, (k + 1) * L = k + t := ⟨(k + 1) * L - k, by omega⟩
  have h1 : g * (L : Int) ≤ (c : Int) * W := by
    have w0 := hw.reps (k + 1)
    rw [ht] at w0
    obtain ⟨w', h2, h3⟩ := u.many t 1 v v _ w0
    rw [Nat.one_mul, Int.natCast_one, Int.one_mul] at *
    have h4 := hmax (by omega) h2
    have h5 := Int.mul_le_mul_of_nonneg_right h3 (show (0 : Int) ≤ (L : Int) by omega)
    have h6 : (((k + 1 : Nat) : Int) * W + g) * (L : Int) = W * ((k + t : Nat) : Int) + g * (L : Int) := by
      rw [← ht, Int.natCast_mul]; grind
    have h7 : W * ((k + t + c : Nat) : Int) = W * ((k + t : Nat) : Int) + (c : Int) * W := by
      rw [Int.natCast_add (k + t) c]; grind
    omega
  have h2 : (c : Int) * W ≤ g * (L : Int) := by
    have w0 := hw.reps (k + 1 + c)
    rw [show (k + 1 + c) * L = k + t + L * c by rw [Nat.add_mul, ht, Nat.mul_comm c L]] at w0
    obtain ⟨w', h2, h3⟩ := d.manyD t L v v _ w0
    have h4 := hmax (by
      have := Nat.mul_le_mul_left (k + 1) hL
      omega) h2
    have h5 := Int.mul_le_mul_of_nonneg_right h3 (show (0 : Int) ≤ (L : Int) by omega)
    have h6 : (((k + 1 + c : Nat) : Int) * W + (L : Int) * -g) * (L : Int) = W * ((k + t : Nat) : Int) + (L : Int) * ((c : Int) * W - g * (L : Int)) := by
      rw [← ht, Int.natCast_mul, Int.natCast_add (k + 1) c]; grind
    have h8 : (L : Int) * ((c : Int) * W - g * (L : Int)) ≤ (L : Int) * 0 := by omega
    have := Int.le_of_mul_le_mul_left h8 (by omega)
    omega
  omega

section
variable {a : List (List Int)} {l : List Nat} {W : Int} {r : TRatio} {S : List (List Int)}
/-- closed walks of weight 0 at v -/
def Zw (a : List (List Int)) (r : TRatio) (v m : Nat) : Prop := Wlk (matF a.length a.length (shF a r.Den r.Num)) a.length v m v 0
theorem CritP.mean {k c : Nat} {g : Int} (h : CritP a l W r S) (hc : 1 ≤ c) (u : UpW a a.length k (k + c) g) (d : UpW a a.length (k + c) k (-g)) : g * r.Den = (c : Int) * r.Num := by
  have h1 := growth_mean h.mc hc u d
  obtain ⟨q, q0, e1, e2⟩ := h.rp.mul
  rw [e1, e2] at h1
  have : q * (g * r.Den) = q * ((c : Int) * r.Num) := by grind
  exact Int.eq_of_mul_eq_mul_left (by omega) this
theorem CritP.some (h : CritP a l W r S) : ∃ v m, v < a.length ∧ Zw a r v (m + 1) := by
  obtain ⟨v, t, e, hw⟩ := h.mc.wc.cl.wlk
  obtain ⟨q, q0, e1, e2⟩ := h.rp.mul
  have := hw.sh h.sh
  rw [show r.Den * W - r.Num * (l.length : Int) = 0 by rw [e1, e2]; grind] at this
  refine ⟨v, l.length - 1, hw.lt.1, ?_⟩
  have hl : l.length = (l.length - 1) + 1 := by rw [e]; simp
  rw [hl] at this
  exact this
theorem CritP.dvdc (h : CritP a l W r S) {k c : Nat} {g : Int} (hg : g * r.Den = (c : Int) * r.Num) (u : UpW a a.length k (k + c) g) {v m d : Nat} (hz : Zw a r v (m + 1)) (hd : ∀ x, Zw a r v x → d ∣ x) : d ∣ c := by
  have h1 := Wlk.reps hz (k + 1)
  rw [Int.mul_zero] at h1
  have hle : k ≤ (k + 1) * (m + 1) := by
    have := Nat.mul_le_mul_left (k + 1) (show 1 ≤ m + 1 by omega)
    omega
  obtain ⟨t, ht⟩ : ∃ t, (k + 1) * (m + 1) = k + t := ⟨(k + 1) * (m + 1) - k, by omega⟩
  rw [ht] at h1
  have d1 := hd _ h1
  obtain ⟨w, hw0, hw⟩ := h1.unsh h.sh
  obtain ⟨w', h2, h3⟩ := u.many t 1 v v w hw
  rw [Nat.one_mul, Int.natCast_one, Int.one_mul] at *
  have h4 := h2.sh h.sh
  have h5 := h.np.le0 h4
  have hD : 0 < r.Den := h.rp.pos
  have h6 := Int.mul_le_mul_of_nonneg_left h3 (show 0 ≤ r.Den by omega)
  have h7 : r.Den * w' - r.Num * ((k + t + c : Nat) : Int) = 0 := by
    have e1 : r.Num * ((k + t + c : Nat) : Int) = r.Num * ((k + t : Nat) : Int) + g * r.Den := by rw [hg, Int.natCast_add (k + t) c]; grind
    have e2 : r.Den * (w + g) = r.Den * w + g * r.Den := by grind
    omega
  rw [h7] at h4
  have d2 := hd _ h4
  exact (Nat.dvd_add_right d1).1 d2
theorem CritP.den (h : CritP a l W r S) {v m : Nat} (hz : Zw a r v m) : r.Den.natAbs ∣ m := by
  obtain ⟨w, hw0, hw⟩ := hz.unsh h.sh
  have h1 : r.Den ∣ r.Num * (m : Int) := ⟨w, by omega⟩
  have h2 : r.Den.natAbs ∣ r.Num.natAbs * m := by
    have := Int.natAbs_dvd_natAbs.2 h1
    rwa [Int.natAbs_mul, Int.natAbs_natCast] at this
  exact Nat.Coprime.dvd_of_dvd_mul_left (show Nat.gcd r.Den.natAbs r.Num.natAbs = 1 by rw [Nat.gcd_comm]; exact h.rp.cop) h2
theorem CritP.upG (hm : Mat a a.length) (h : CritP a l W r S) {k c G : Nat} {g gG : Int} (hc : 1 ≤ c) (hG1 : 1 ≤ G) (hg : g * r.Den = (c : Int) * r.Num) (hgG : gG * r.Den = (G : Int) * r.Num) (u : UpW a a.length k (k + c) g) (d : UpW a a.length (k + c) k (-g))
    (hG : ∀ v m, Zw a r v (m + 1) → ∀ e, (∀ x, Zw a r v x → e ∣ x) → e ∣ G) : UpW a a.length k (k + G) gG := by
  intro j i w hw
  have hrows := hm.rows
  have hD : 0 < r.Den := h.rp.pos
  generalize hK : (a.length : Int) * (20000000 * (a.length : Int)) + (a.length : Int) = K
  obtain ⟨m, hmK⟩ : ∃ m : Nat, K - (a.length : Int) * (r.Den * w - r.Num * (k : Int)) < (m : Int) := ⟨(K - (a.length : Int) * (r.Den * w - r.Num * (k : Int))).toNat + 1, by omega⟩
  obtain ⟨w1, h1, h2⟩ := u.many 0 m j i w (by simpa using hw)
  rw [Nat.add_zero] at h1
  have h3 := h1.sh h.sh
  have hmc : (m : Int) ≤ ((m * c : Nat) : Int) := by
    have := Nat.mul_le_mul_left m hc
    omega
  have e0 : r.Num * ((k + m * c : Nat) : Int) = r.Num * (k : Int) + r.Den * ((m : Int) * g) := by
    have : r.Den * ((m : Int) * g) = (m : Int) * (g * r.Den) := by grind
    rw [this, hg, Int.natCast_add, Int.natCast_mul]; grind
  have h4 := Int.mul_le_mul_of_nonneg_left h2 (show 0 ≤ r.Den by omega)
  rw [Int.mul_add] at h4
  have h5 : r.Den * w - r.Num * (k : Int) ≤ r.Den * w1 - r.Num * ((k + m * c : Nat) : Int) := by omega
  have h6 := Int.mul_le_mul_of_nonneg_left h5 (show (0 : Int) ≤ (a.length : Int) by omega)
  obtain ⟨v, N1, N2, b1, b2, kk, hN, hb, f1, f2, f3⟩ := visits h.np h.sh.bd (by omega) (by omega) h3 (by rw [hK]; omega)
  obtain ⟨y, m2, hy, ey⟩ := residue (H := fun x => Zw a r v x) (fun x y hx hy => by
    have := Wlk.trans hx hy
    rw [Int.add_zero] at this
    exact this) hc ⟨kk + 1, by omega, f3⟩ hG1 (hG v kk f3)
  have hins := (f1.trans hy).trans f2
  obtain ⟨w2, hw2, hins2⟩ := hins.unsh h.sh
  have elen : N1 + y + N2 = k + G + (m + m2) * c := by rw [Nat.add_mul]; omega
  rw [elen] at hins2 hw2
  obtain ⟨w3, h7, h8⟩ := d.manyD G (m + m2) j i w2 hins2
  refine ⟨w3, h7, ?_⟩
  have h9 : r.Den * (w + (m : Int) * g + gG + (m2 : Int) * g) ≤ r.Den * w2 := by
    have e1 : r.Num * ((k + G + (m + m2) * c : Nat) : Int) = r.Num * ((k + m * c : Nat) : Int) + r.Den * gG + r.Den * ((m2 : Int) * g) := by
      have q1 : r.Den * gG = (G : Int) * r.Num := by rw [Int.mul_comm]; exact hgG
      have q2 : r.Den * ((m2 : Int) * g) = (m2 : Int) * ((c : Int) * r.Num) := by rw [← hg]; grind
      rw [q1, q2]
      have q3 : ((k + G + (m + m2) * c : Nat) : Int) = ((k + m * c : Nat) : Int) + (G : Int) + (m2 : Int) * (c : Int) := by
        rw [Nat.add_mul]
        simp only [Int.natCast_add, Int.natCast_mul]
        omega
      rw [q3]; grind
    have e2 : r.Den * (w + (m : Int) * g + gG + (m2 : Int) * g) = r.Den * w + r.Den * ((m : Int) * g) + r.Den * gG + r.Den * ((m2 : Int) * g) := by grind
    omega
  have h10 := Int.le_of_mul_le_mul_left h9 hD
  have e3 : ((m + m2 : Nat) : Int) * -g = -((m : Int) * g) - (m2 : Int) * g := by rw [Int.natCast_add]; grind
  omega
theorem CritP.least (hm : Mat a a.length) (hq : sqB a = true) (h : CritP a l W r S) {k c G : Nat} {g : Int} (hc : 1 ≤ c) (ok : okTo a (unitM a.length) (k + c)) (u : UpW a a.length k (k + c) g) (d : UpW a a.length (k + c) k (-g)) (hmin : ∀ c', 1 ≤ c' → c' < c → ∀ g', ¬ ShiftM (pw a (unitM a.length) k) (pw a (unitM a.length) (k + c')) a.length a.length g')
    (hG1 : 1 ≤ G) (hGc : G ∣ c) (hG : ∀ v m, Zw a r v (m + 1) → ∀ e, (∀ x, Zw a r v x → e ∣ x) → e ∣ G) : G = c := by
  have hle := Nat.le_of_dvd (by omega) hGc
  apply Classical.byContradiction
  intro hne
  have hg := h.mean hc u d
  have hD : 0 < r.Den := h.rp.pos
  obtain ⟨v, m, _, hz⟩ := h.some
  obtain ⟨t, ht⟩ := hG v m hz r.Den.natAbs fun x hx => h.den hx
  have eD : ((r.Den.natAbs : Nat) : Int) = r.Den := Int.natAbs_of_nonneg (by omega)
  have hgG : ((t : Int) * r.Num) * r.Den = (G : Int) * r.Num := by rw [ht, Int.natCast_mul, eD]; grind
  have up := h.upG hm hc hG1 hg hgG u d hG
  obtain ⟨s, hs⟩ := hGc
  have hs1 : 1 ≤ s := by
    rcases Nat.eq_zero_or_pos s with e | e
    · subst e; omega
    · exact e
  obtain ⟨s', rfl⟩ : ∃ s', s = s' + 1 := ⟨s - 1, by omega⟩
  have m1 := up.many G s'
  rw [show k + G + s' * G = k + c by rw [hs, Nat.mul_add, Nat.mul_comm]; omega] at m1
  have down := m1.trans d
  have eg : g = ((s' : Int) + 1) * ((t : Int) * r.Num) := by
    have : r.Den * g = r.Den * (((s' : Int) + 1) * ((t : Int) * r.Num)) := by
      have q : (c : Int) = (G : Int) * ((s' : Int) + 1) := by rw [hs]; simp
      have : r.Den * g = (c : Int) * r.Num := by rw [← hg]; grind
      rw [this, q]
      have : (G : Int) * ((s' : Int) + 1) * r.Num = ((s' : Int) + 1) * ((G : Int) * r.Num) := by grind
      rw [this, ← hgG]; grind
    exact Int.eq_of_mul_eq_mul_left (by omega) this
  rw [show (s' : Int) * ((t : Int) * r.Num) + -g = -((t : Int) * r.Num) by rw [eg]; grind] at down
  exact hmin G hG1 (by omega) _ ((shift_walk hq (ok.mono (by omega)) (ok.mono (by omega)) _).2 ⟨up, down⟩)
end

def FQ2 (a f : List (List Int)) (w : Nat) (r : Int × Int × Int × Int × TL07series) (r' : TRepeat × Int × TOrbit) : Prop :=
  r.1 = r'.1.at_ ∧ r.2.1 = r'.1.period ∧ r.2.2.1 = r'.1.growth ∧ r.2.2.2.1 = r'.2.1 ∧ (r'.2.1 = 0 → ∃ k c m : Nat, r'.1.at_ = k ∧ r'.1.period = c ∧ 1 ≤ c ∧ k + c ≤ 100 ∧ k + c < m ∧ m ≤ 101 ∧ okTo a f (m - 1) ∧ (-2000000 ≤ r'.1.growth ∧ r'.1.growth ≤ 2000000) ∧
    ShiftM (pw a f k) (pw a f (k + c)) a.length w r'.1.growth ∧ r.2.2.2.2 = sS a f m ∧ r'.2.2 = oS a f m ∧ (∀ c', 1 ≤ c' → c' < c → ∀ g', ¬ ShiftM (pw a f k) (pw a f (k + c')) a.length w g') ∧ (r'.1.growth = 0 ∨ ∃ i j, i < a.length ∧ j < w ∧ entA (pw a f k) i j ≠ -1000000000000000))
theorem find_rel2 {a f : List (List Int)} {w : Nat} (hs : Ser a f w) : Rel (spec_l07Find_B (sS a f 1)) (impl_orbit_firstRepeat_B (oS a f 1)) (FQ2 a f w) := by
  unfold spec_l07Find_B impl_orbit_firstRepeat_B
  simp only [at_same]
  let Q1 : ((List (List Int)) × (List (List Int))) ⊕ (Int × Int × Int × Int × TL07series) → (List (List (List Int))) ⊕ (TRepeat × Int × TOrbit) → Prop := fun y y' => (∃ s s', y = .inl s ∧ y' = .inl s') ∨ ∃ r r', y = .inr r ∧ y' = .inr r' ∧ FQ2 a f w r r'
  refine Rel.bind (P := Q1) (Rel.for (n := 100) (fun i t t' => ∃ m, (i = 0 ∧ m = 1 ∨ m = 101) ∧ okTo a f (m - 1) ∧ t = (pw a f (m - 1), tab m (fl a f)) ∧ t' = tab m (pw a f)) (by omega) ⟨1, .inl ⟨rfl, rfl⟩, hs.zero, rfl, rfl⟩ (fun i t t' hi hR => ?_) (fun t t' _ => .inl ⟨_, _, rfl, rfl⟩)) fun y y' hy => ?_
  · obtain ⟨m, hm, ok, rfl, rfl⟩ := hR
    have hm1 : 1 ≤ m ∧ m ≤ 101 := by omega
    have oki : okTo a f i := by
      rcases hm with ⟨rfl, rfl⟩ | rfl
      · exact hs.zero
      · exact ok.mono (by omega)
    have hmax : max m (i + 1) = m := by omega
    have hat := at_good hs hm1.1 (by omega) (k := i) (by omega) oki
    rw [hmax] at hat
    refine Rel.left hat ?_
    let Q2 : ((List (List Int)) × (List (List Int)) × Int) ⊕ (Int × Int × Int × Int × TL07series) → ((List (List (List Int))) × Int) ⊕ (TRepeat × Int × TOrbit) → Prop := fun y y' => (∃ c : Int, okTo a f 100 ∧ y = .inl (pw a f 100, tab 101 (fl a f), c) ∧ y' = .inl (tab 101 (pw a f), c)) ∨ ∃ r r', y = .inr r ∧ y' = .inr r' ∧ FQ2 a f w r r'
    refine Rel.bind (P := Q2) (Rel.loop (fun t t' => ∃ m c : Nat, 1 ≤ c ∧ i + c ≤ 101 ∧ i + c ≤ m ∧ 1 ≤ m ∧ m ≤ 101 ∧ okTo a f (m - 1) ∧ t = (pw a f (m - 1), tab m (fl a f), (c : Int)) ∧ t' = (tab m (pw a f), (c : Int)) ∧ (∀ c' : Nat, 1 ≤ c' → c' < c → ∀ g', ¬ ShiftM (pw a f i) (pw a f (i + c')) a.length w g')) (fun t => (101 - t.2.2).toNat) ⟨m, 1, by omega, by omega, by omega, by omega, by omega, ok, rfl, rfl, fun c' h1 h2 => by omega⟩ fun t t' hR => ?_) fun y y' hy => ?_
    · obtain ⟨m, c, c1, c2, c3, c4, c5, ok, rfl, rfl, hmin⟩ := hR
      have ew : w64 ((i : Int) + (c : Int)) = ((i + c : Nat) : Int) := by rw [w64_eq _ (by omega)]; omega
      simp only [ew]
      refine Rel.ite rfl (fun h => ?_) (fun h => ?_)
      · have h : i + c ≤ 100 := by have := of_decide_eq_true h; omega
        by_cases ok2 : okTo a f (i + c)
        · have g1 := at_good hs c4 (by omega) (k := i + c) (by omega) ok2
          have g2 := grow_good hs c4 (by omega) (k := i + c) (by omega) ok2
          have okm : okTo a f (max m (i + c + 1) - 1) := by
            by_cases e : m ≤ i + c + 1
            · rw [show max m (i + c + 1) - 1 = i + c by omega]; exact ok2
            · rw [show max m (i + c + 1) - 1 = m - 1 by omega]; exact ok
          have hmm : i + c < max m (i + c + 1) ∧ max m (i + c + 1) ≤ 101 := by omega
          generalize max m (i + c + 1) = m' at g1 g2 okm hmm
          have mi := hs.pm ok2 (i := i) (by omega)
          have mk := hs.pm ok2 (i := i + c) (by omega)
          have li := (hs.shp i).2
          have lk := (hs.shp (i + c)).2
          obtain ⟨g, b, k1, k2, k3, k4, k5⟩ := gap_same mi mk (by omega)
          obtain ⟨rg, rg1, rg2⟩ := growth_tc mi mk (by omega)
          have r1 : M.Conv (M.idx (oS a f m').list (i : Int)) (pw a f i) := idx_tab (by omega)
          have r2 : M.Conv (M.idx (oS a f m').list ((i + c : Nat) : Int)) (pw a f (i + c)) := idx_tab (by omega)
          refine Rel.left g1 (Rel.right g2 (Rel.iteL (fun t => by cases t) (fun _ => Rel.iteR (fun t => by cases t) (fun _ => Rel.left k1 (Rel.right r1 (Rel.right r2 (Rel.right k2 ?_)))))))
          cases b with
          | true =>
            refine Rel.iteL (fun _ => Rel.iteR (fun _ => Rel.ret (Round.off (.inr ⟨_, _, rfl, rfl, ?_⟩))) (fun t => by cases t)) (fun t => by cases t)
            refine ⟨rfl, rfl, rfl, rfl, fun _ => ⟨i, c, m', rfl, rfl, c1, h, hmm.1, hmm.2, okm, k3, ?_, rfl, rfl, hmin, ?_⟩⟩
            · have := k4.1 rfl
              rwa [li] at this
            · have e := M.Conv.unique rg1 k2
              rcases rg2 with q | q
              · rw [e] at q
                have := q.2.2
                rwa [li] at this
              · rw [e] at q
                have := congrArg Prod.snd q.1
                cases this
          | false =>
            refine Rel.iteL (fun t => by cases t) (fun _ => Rel.iteR (fun t => by cases t) (fun _ => Rel.ret (Round.on ⟨⟨m', c + 1, by omega, by omega, by omega, by omega, by omega, okm, ?_, ?_, fun c' q1 q2 => ?_⟩, ?_⟩)))
            · simp only [sS]
              rw [w64_eq _ (by omega)]; rfl
            · simp only [oS]
              rw [w64_eq _ (by omega)]; rfl
            · by_cases h1 : c' = c
              · subst h1
                intro g' hg'
                rw [← li] at hg'
                have := (k5 g' hg').1
                cases this
              · exact hmin c' q1 (by omega)
            · simp only
              rw [w64_eq _ (by omega)]; omega
        · obtain ⟨s1, g1⟩ := at_bad hs c4 (by omega) (k := i + c) (by omega) ok ok2
          obtain ⟨s2, g2⟩ := grow_bad hs c4 (by omega) (k := i + c) (by omega) ok ok2
          refine Rel.left g1 (Rel.right g2 (Rel.iteL (fun _ => Rel.iteR (fun _ => Rel.ret (Round.off (.inr ⟨_, _, rfl, rfl, rfl, rfl, rfl, rfl, fun t => by simp at t⟩))) (fun t => by cases t)) (fun t => by cases t)))
      · have h : m = 101 := by have := of_decide_eq_false h; omega
        subst h
        exact Rel.ret (Round.off (.inl ⟨_, ok, rfl, rfl⟩))
    · rcases hy with ⟨c, ok2, rfl, rfl⟩ | ⟨r, r', rfl, rfl, q⟩
      · exact Rel.ret (Round.on ⟨101, .inr rfl, ok2, rfl, rfl⟩)
      · exact Rel.ret (Round.off (.inr ⟨_, _, rfl, rfl, q⟩))
  · rcases hy with ⟨s, s', rfl, rfl⟩ | ⟨r, r', rfl, rfl, q⟩
    · exact Rel.ret ⟨rfl, rfl, rfl, rfl, fun t => by simp at t⟩
    · exact Rel.ret q
theorem orp_col {a : List (List Int)} (hq : sqB a = true) {m j : Nat} (hj : j < a.length) (ok : okTo a (unitM a.length) m) : OrP a a.length (fun i => if i = j then 0 else -1000000000000000) m (fun i => entA (pw a (unitM a.length) m) i j) := by
  refine ⟨fun i hi => ?_, fun i j' w hj' hw => ?_⟩
  · rcases (pw_walk hq m ok i j hi hj).1 with e | h
    · exact .inl e
    · exact .inr ⟨j, _, by simp, h, by simp⟩
  · by_cases e : j' = j
    · subst e
      obtain ⟨c1, c2⟩ := (pw_walk hq m ok i j' hw.lt.2 hj).2 w hw
      exact ⟨c1, by simpa using c2⟩
    · simp [e] at hj'
theorem cyc_of_up {a : List (List Int)} {n k c : Nat} {g : Int} (hc : 1 ≤ c) (u : UpW a n k (k + c) g) {j i : Nat} {w : Int} (hw : Wlk a n j k i w) : ∃ l w, Cl a n l w := by
  obtain ⟨w', h1, _⟩ := u.many 0 n j i w (by simpa using hw)
  rw [Nat.add_zero] at h1
  have := Nat.mul_le_mul_left n hc
  exact h1.cyc (by omega)
theorem growth_smallM {a : List (List Int)} (hq : sqB a = true) (sa : SmM a) {k c : Nat} {g : Int} (hc1 : 1 ≤ c) (hkc : k + c ≤ 100) (ok : okTo a (unitM a.length) (k + c)) (hsh : ShiftM (pw a (unitM a.length) k) (pw a (unitM a.length) (k + c)) a.length a.length g)
    (hmin : ∀ c', 1 ≤ c' → c' < c → ∀ g', ¬ ShiftM (pw a (unitM a.length) k) (pw a (unitM a.length) (k + c')) a.length a.length g') (hz : g = 0 ∨ ∃ i j, i < a.length ∧ j < a.length ∧ entA (pw a (unitM a.length) k) i j ≠ -1000000000000000) : -1000000 ≤ g ∧ g ≤ 1000000 := by
  have hm := sq_mat hq
  have hrows := hm.rows
  apply Classical.byContradiction
  intro hno
  obtain ⟨i0, j0, hi0, hj0, hf0⟩ := hz.resolve_left (by omega)
  obtain ⟨u, d⟩ := (shift_walk hq (ok.mono (by omega)) ok g).1 hsh
  by_cases h2 : 2 ≤ c
  · refine hmin 1 (by omega) (by omega) (entA a 0 0) fun i j hi hj => ?_
    by_cases hcol : ∃ i1, i1 < a.length ∧ entA (pw a (unitM a.length) k) i1 j ≠ -1000000000000000
    · obtain ⟨i1, hi1, hf1⟩ := hcol
      have pair := fun i (hi : i < a.length) => hsh i j hi hj
      have hrep : RepP a a.length (fun i => if i = j then 0 else -1000000000000000) k c g (fun i => entA (pw a (unitM a.length) k) i j) (fun i => entA (pw a (unitM a.length) (k + 1)) i j) (fun i => entA (pw a (unitM a.length) (k + c)) i j) := by
        refine ⟨fun i j _ _ hne => sa i j hne, fun i hi => ?_, orp_col hq hj (ok.mono (by omega)), orp_col hq hj (ok.mono (by omega)), orp_col hq hj ok, hkc, h2, by omega, fun i hi => ?_, fun i hi hf => ?_, ⟨i1, hi1, hf1⟩⟩
        · by_cases e : i = j <;> simp [e]
        · rcases pair i hi with ⟨p1, p2⟩ | ⟨p1, p2, _⟩
          · exact ⟨fun _ => p2, fun _ => p1⟩
          · exact ⟨fun h => absurd h p1, fun h => absurd h p2⟩
        · rcases pair i hi with ⟨p1, _⟩ | ⟨_, _, p3⟩
          · exact absurd p1 hf
          · (try simp only); omega
      obtain ⟨q1, q2⟩ := hrep.next (fun i hi => by rw [if_neg (by omega)]) (by omega) i hi
      try simp only at q1 q2
      by_cases e : entA (pw a (unitM a.length) k) i j = -1000000000000000
      · exact .inl ⟨e, q1.1 e⟩
      · exact .inr ⟨e, fun h => e (q1.2 h), by have := q2 e; omega⟩
    · have hall : ∀ i1, i1 < a.length → entA (pw a (unitM a.length) k) i1 j = -1000000000000000 := fun i1 hi1 => Classical.byContradiction fun h => hcol ⟨i1, hi1, h⟩
      refine .inl ⟨hall i hi, ?_⟩
      rcases (pw_walk hq (k + 1) (ok.mono (by omega)) i j hi hj).1 with e | hw
      · exact e
      · obtain ⟨x, w1, w2, f1, _, _⟩ := hw.split k 1
        exact absurd (hall x f1.lt.2) ((pw_walk hq k (ok.mono (by omega)) x j f1.lt.2 hj).2 w1 f1).1
  · obtain rfl : c = 1 := by omega
    have hw0 := (pw_walk hq k (ok.mono (by omega)) i0 j0 hi0 hj0).1.resolve_left hf0
    obtain ⟨l0, w0, hcl⟩ := cyc_of_up (by omega) u hw0
    obtain ⟨q, _, q2⟩ := best_tc hm
    obtain ⟨_, l, W, _, hmc⟩ := q2.resolve_left fun h => h.2 l0 w0 hcl
    have := growth_mean hmc (by omega) u d
    have hb := hmc.wc.cl.bd (mat_ent hm)
    have hl := hmc.wc.len
    have h1 : (l.length : Int) * g = W := by rw [Int.mul_comm]; omega
    by_cases hpos : 1000000 < g
    · have := Int.mul_le_mul_of_nonneg_left (show 1000001 ≤ g by omega) (show (0 : Int) ≤ (l.length : Int) by omega)
      omega
    · have := Int.mul_le_mul_of_nonneg_left (show g ≤ -1000001 by omega) (show (0 : Int) ≤ (l.length : Int) by omega)
      omega

theorem Wlk.first {a : List (List Int)} {n v m x : Nat} {w : Int} (h : Wlk a n v (m + 1) x w) : ∃ i, i < n ∧ arcE a v i := by
  rw [Nat.add_comm] at h
  obtain ⟨y, w1, w2, h1, _, _⟩ := h.split 1 m
  cases h1 with
  | step _ i1 _ w0 hw hi ha =>
    cases hw with
    | nil _ => exact ⟨y, hi, ha⟩
theorem CritP.divC {a : List (List Int)} (hm : Mat a a.length) {l : List Nat} {W : Int} {r : TRatio} {S : List (List Int)} (h : CritP a l W r S) {v d : Nat} : DivC (matF a.length a.length (critF (matF a.length a.length (shF a r.Den r.Num)) S a)) a.length v d ↔ ∀ x, Zw a r v x → d ∣ x := by
  constructor
  · intro hd x hx
    obtain ⟨w, hw⟩ := (h.closed hm).2 hx
    exact hd x w hw
  · intro hd x w hw
    exact hd x ((h.closed hm).1 ⟨w, hw⟩)
theorem Cyclicity_tc {a : List (List Int)} (hm : Mat a a.length) {l : List Nat} {W : Int} {r : TRatio} {S : List (List Int)} (h : CritP a l W r S) {w : List (List Int) × Int} (c1 : M.Conv (impl_criticalOf a) w) (hw : w.2 = 0) (ew : w.1 = matF a.length a.length (critF (matF a.length a.length (shF a r.Den r.Num)) S a))
    (c3 : M.Conv (spec_l06Matrix a) (matF a.length a.length (critF (matF a.length a.length (shF a r.Den r.Num)) S a))) (c4 : M.Conv (spec_l06Arcs a) ((arcsV (critB (matF a.length a.length (shF a r.Den r.Num)) S) a.length a.length).map encA))
    {c : Nat} (hc : 1 ≤ c ∧ c ≤ 1000) (hdc : ∀ v m, Zw a r v (m + 1) → ∀ d, (∀ x, Zw a r v x → d ∣ x) → d ∣ c) :
    ∃ G : Nat, M.Conv (impl_Cyclicity a) ((G : Int), 0) ∧ 1 ≤ G ∧ G ∣ c ∧ ∀ v m, Zw a r v (m + 1) → ∀ d, (∀ x, Zw a r v x → d ∣ x) → d ∣ G := by
  have hrows := hm.rows
  obtain ⟨rr, k1, k2, k3⟩ := lcomps_both hm h c3 c4
  have hsC : Shp (matF a.length a.length (critF (matF a.length a.length (shF a r.Den r.Num)) S a)) a.length := shp_of (by omega) (by omega)
  have hlC := matF_len a.length a.length (critF (matF a.length a.length (shF a r.Den r.Num)) S a)
  have hmem := fun {x : List Int} => keepF_mem (rr := rr) (c := critB (matF a.length a.length (shF a r.Den r.Num)) S) (n := a.length) (x := x)
  have hkl := keepF_len (rr := rr) (c := critB (matF a.length a.length (shF a r.Den r.Num)) S) (n := a.length)
  have harcs : ∀ {i k : Nat}, i < a.length → k < a.length → (arcE (matF a.length a.length (critF (matF a.length a.length (shF a r.Den r.Num)) S a)) k i ↔ critB (matF a.length a.length (shF a r.Den r.Num)) S k i = true) := fun hi hk => h.arc hm hi hk
  have hback := fun {i j : Nat} (hi : i < a.length) (hj : j < a.length) hcc => h.back hm hi hj hcc
  have hclosed := fun {v m : Nat} => h.closed hm (v := v) (m := m)
  have hdiv := fun {v d : Nat} => h.divC hm (v := v) (d := d)
  have hkdef : keepF rr (critB (matF a.length a.length (shF a r.Den r.Num)) S) a.length = ((List.range a.length).filter fun v => ((compF rr a.length v).head? == some (v : Int)) && (List.range a.length).any (critB (matF a.length a.length (shF a r.Den r.Num)) S v)).map (compF rr a.length) := rfl
  generalize critB (matF a.length a.length (shF a r.Den r.Num)) S = cb at *
  generalize matF a.length a.length (critF (matF a.length a.length (shF a r.Den r.Num)) S a) = C at *
  -- each component's period
  have per : ∀ x ∈ keepF rr cb a.length, ∃ (v q : Nat), v < a.length ∧ x = compF rr a.length v ∧ x.head? = some (v : Int) ∧ M.Conv (impl_periodOf C x) (q : Int) ∧ 1 ≤ q ∧ q ∣ c ∧ ∀ d, DivC C a.length v d → d ∣ q := fun x hx => by
    obtain ⟨v, hv, ex, hh, i, hi, hcc⟩ := hmem hx
    obtain ⟨q, _, q2, q3⟩ := period_both c3 hsC hlC k1 hv (by rw [← ex]; exact hh)
    rw [← ex] at q2
    obtain ⟨kk, w0, hwk⟩ := (hback hi hv hcc).wlk hi
    have hcl := (Wlk.step 0 v i 0 (.nil hv) hi ((harcs hi hv).2 hcc)).trans hwk
    have hz : Zw a r v (kk + 1) := by
      have := hclosed.1 ⟨_, hcl⟩
      rw [show 0 + 1 + kk = kk + 1 by omega] at this
      exact this
    have hqc := hdc v kk hz q (hdiv.1 ((q3 q).1 (Nat.dvd_refl q)))
    exact ⟨v, q, hv, ex, hh, q2, Nat.pos_of_dvd_of_pos hqc (by omega), hqc, fun d hd => (q3 d).2 hd⟩
  have key : ∃ G : Nat, M.Conv (M.forI 0 ((keepF rr cb a.length).length : Int) (fun s => s) (fun i1 => (fun (s1 : Int) => M.bind (M.idx (keepF rr cb a.length) i1) (fun x4 => M.bind (impl_periodOf C x4) (fun x5 => M.bind (impl_divisorOf s1 x5) (fun x6 => M.bind (M.guard (x6 != 0)) (fun _ => M.ret (.inl (w64 ((w64 (s1.tdiv x6)) * x5))))))))) 1) (G : Int) ∧ 1 ≤ G ∧ G ∣ c ∧ ∀ x ∈ (keepF rr cb a.length).take (keepF rr cb a.length).length, ∀ v, v < a.length → x = compF rr a.length v → x.head? = some (v : Int) → ∀ d, DivC C a.length v d → d ∣ G := by
    have := M.TC_forN (n := (keepF rr cb a.length).length) (f := fun i1 => (fun (s1 : Int) => M.bind (M.idx (keepF rr cb a.length) i1) (fun x4 => M.bind (impl_periodOf C x4) (fun x5 => M.bind (impl_divisorOf s1 x5) (fun x6 => M.bind (M.guard (x6 != 0)) (fun _ => M.ret (.inl (w64 ((w64 (s1.tdiv x6)) * x5))))))))) (s := 1)
      (fun k (s : Int) => ∃ G : Nat, s = (G : Int) ∧ 1 ≤ G ∧ G ∣ c ∧ ∀ x ∈ (keepF rr cb a.length).take k, ∀ v, v < a.length → x = compF rr a.length v → x.head? = some (v : Int) → ∀ d, DivC C a.length v d → d ∣ G) (by omega) ⟨1, rfl, by omega, Nat.one_dvd c, by simp⟩ (fun k s hk hI => ?_)
    · obtain ⟨y, cy, G, rfl, g1, g2, g3⟩ := this
      exact ⟨G, cy, g1, g2, g3⟩
    · obtain ⟨G, rfl, g1, g2, g3⟩ := hI
      have hx := List.getElem?_eq_getElem hk
      have et : (keepF rr cb a.length).take (k + 1) = (keepF rr cb a.length).take k ++ [(keepF rr cb a.length)[k]] := by rw [List.take_add_one]; simp [hk]
      obtain ⟨v, q, hv, ex, hh, q1, q2, q3, q4⟩ := per _ (List.getElem_mem hk)
      generalize (keepF rr cb a.length)[k] = x at *
      have hg := Nat.gcd_pos_of_pos_left q (show 0 < G by omega)
      have hGc := Nat.le_of_dvd (by omega) g2
      have hlc : Nat.lcm G q ∣ c := Nat.lcm_dvd g2 q3
      have hlcm : G / Nat.gcd G q * q = Nat.lcm G q := by
        unfold Nat.lcm
        rw [Nat.div_mul_right_comm (Nat.gcd_dvd_left G q)]
      have hl1 := Nat.pos_of_dvd_of_pos hlc (by omega)
      have hl2 := Nat.le_of_dvd (by omega) hlc
      have hgl : G / Nat.gcd G q ≤ G := Nat.div_le_self _ _
      have e1 : w64 ((G : Int).tdiv ((Nat.gcd G q : Nat) : Int)) = ((G / Nat.gcd G q : Nat) : Int) := by
        show w64 ((G / Nat.gcd G q : Nat) : Int) = _
        clear hlcm
        generalize G / Nat.gcd G q = Q at hgl
        exact w64_eq _ (by omega)
      have e2 : w64 (w64 ((G : Int).tdiv ((Nat.gcd G q : Nat) : Int)) * (q : Int)) = ((Nat.lcm G q : Nat) : Int) := by
        rw [e1, ← Int.natCast_mul, hlcm, w64_eq _ (by omega)]
      refine M.TC_bindC (M.Conv_idx hx) (M.TC_bindC q1 (M.TC_bindC (divisorI_gcd (a := G) (b := q)) (M.TC_bindC (M.Conv_guard (by simp; omega)) (M.TC_ret ⟨_, rfl, Nat.lcm G q, e2, hl1, hlc, fun y hy u hu ey hyu d hd => ?_⟩))))
      rw [et, List.mem_append, List.mem_singleton] at hy
      rcases hy with hy | rfl
      · exact Nat.dvd_trans (g3 y hy u hu ey hyu d hd) (Nat.dvd_lcm_left G q)
      · have : u = v := by rw [hh] at hyu; simp at hyu; omega
        subst this
        exact Nat.dvd_trans (q4 d hd) (Nat.dvd_lcm_right G q)
  obtain ⟨G, cG, g1, g2, g3⟩ := key
  refine ⟨G, ?_, g1, g2, fun v m hz d hd => ?_⟩
  · unfold impl_Cyclicity
    refine M.Conv_bind c1 (M.Conv_ite (fun t => by rw [hw] at t; cases t) (fun _ => ?_))
    rw [ew]
    exact M.Conv_bind k2 (M.Conv_bind cG (M.Conv_ret _))
  · have hv := hz.lt.1
    have hvv : rr v v = true := (k1 v v hv hv).2 (.refl _ _ _)
    have hvm : (v : Int) ∈ compF rr a.length v := compF_mem.2 ⟨v, rfl, hv, hvv, hvv⟩
    cases hh : (compF rr a.length v).head? with
    | none => rw [List.head?_eq_none_iff] at hh; rw [hh] at hvm; simp at hvm
    | some y =>
      obtain ⟨u, rfl, hu, h1, h2⟩ := compF_mem.1 (List.mem_of_mem_head? (by rw [hh]; rfl))
      have H2 : ∀ u v w, u < a.length → v < a.length → w < a.length → rr u v = true → rr v w = true → rr u w = true := fun u v w hu hv hw h1 h2 => (k1 u w hu hw).2 (((k1 u v hu hv).1 h1).trans ((k1 v w hv hw).1 h2))
      have e := compF_eq H2 hv hu h1 h2
      have r1 := (k1 v u hv hu).1 h1
      have r2 := (k1 u v hu hv).1 h2
      obtain ⟨ka, wa, hwa⟩ := r2.wlk hu
      obtain ⟨kb, wb, hwb⟩ := r1.wlk hv
      obtain ⟨wc, hwc⟩ := hclosed.2 hz
      have hcl := (hwa.trans hwc).trans hwb
      rw [show ka + (m + 1) + kb = ka + m + kb + 1 by omega] at hcl
      obtain ⟨i, hi, ha⟩ := hcl.first
      have hmu : compF rr a.length u ∈ keepF rr cb a.length := by
        rw [hkdef]
        refine List.mem_map.2 ⟨u, ?_, rfl⟩
        rw [List.mem_filter, List.mem_range, Bool.and_eq_true, List.any_eq_true]
        exact ⟨hu, by rw [← e, hh]; simp, i, List.mem_range.2 hi, (harcs hi hu).1 ha⟩
      exact g3 _ (by rw [List.take_length]; exact hmu) u hu rfl (by rw [← e]; exact hh) d ((hdiv.2 hd).move hv hu r1 r2)
structure PRep (a : List (List Int)) (k c : Nat) (g : Int) : Prop where
  sq : sqB a = true
  c1 : 1 ≤ c
  kc : k + c ≤ 100
  ok : okTo a (unitM a.length) (k + c)
  g2 : -2000000 ≤ g ∧ g ≤ 2000000
  sh : ShiftM (pw a (unitM a.length) k) (pw a (unitM a.length) (k + c)) a.length a.length g
  min : ∀ c', 1 ≤ c' → c' < c → ∀ g', ¬ ShiftM (pw a (unitM a.length) k) (pw a (unitM a.length) (k + c')) a.length a.length g'
  nz : g = 0 ∨ ∃ i j, i < a.length ∧ j < a.length ∧ entA (pw a (unitM a.length) k) i j ≠ -1000000000000000
theorem powers_Two (a : List (List Int)) (sa : smII a) : Two (spec_PowersRepeat a) (impl_PowersRepeat a) (fun w => w.2.2.2 = 0 → ∃ k c : Nat, w.1 = k ∧ w.2.1 = c ∧ PRep a k c w.2.2.1) := by
  unfold spec_PowersRepeat impl_PowersRepeat
  refine Two.bindC (spec_l02Square_ok sa) (impl_isSquare_ok sa) (Two.ite (fun _ => Two.ret _ (by simp)) (fun h => ?_))
  have h : sqB a = true := by simpa using h
  have hr := (sq_mat h).rows
  have hs := ser_pow h
  obtain ⟨r, r', k1, k2, q1, q2, q3, q4, q5⟩ := find_rel2 hs
  refine Two.left (spec_l02Unit_ok (by omega)) (Two.left (start_ok hs) (Two.left k1 (Two.right (pow_ok' h) (Two.right k2 ?_))))
  rw [q1, q2, q3, q4]
  refine Two.ret _ fun h0 => ?_
  obtain ⟨k, c, m, e1, e2, e3, e4, e5, e6, ok, e7, hsh, _, _, hmin, hz⟩ := q5 h0
  exact ⟨k, c, e1, e2, h, e3, e4, ok.mono (by omega), e7, hsh, hmin, hz⟩
theorem isRepeat_tc {a : List (List Int)} (sa : smII a) (h : sqB a = true) {k c : Nat} {g : Int} (hc : 1 ≤ c) (hkc : k + c ≤ 100) (hg : finB g = true) : M.TC (impl_IsRepeat a (k : Int) (c : Int) g) (fun w => (w = (false, 3) ∧ ¬ okTo a (unitM a.length) (k + c)) ∨ (okTo a (unitM a.length) (k + c) ∧ w.2 = 0 ∧ (ShiftM (pw a (unitM a.length) k) (pw a (unitM a.length) (k + c)) a.length a.length g → w.1 = true))) := by
  have hr := (sq_mat h).rows
  have hs := ser_pow h
  have ew : w64 ((k : Int) + (c : Int)) = ((k + c : Nat) : Int) := by rw [w64_eq _ (by omega)]; omega
  unfold impl_IsRepeat
  refine M.TC_bindC (impl_isSquare_ok sa) (M.TC_ite (fun t => by rw [h] at t; cases t) (fun _ => M.TC_bindC (impl_within_ok _ _ _) ?_))
  rw [show (decide (0 ≤ (k : Int)) && decide ((k : Int) ≤ 100)) = true by simp; omega, w64_eq (100 - (k : Int)) (by omega)]
  refine M.TC_bindC (x := false) (M.Conv_ite (fun t => by cases t) (fun _ => M.Conv_bind (impl_within_ok _ _ _) ((M.Conv_ret _).of (by simp; omega)))) (M.TC_bindC (x := false) (M.Conv_ite (fun t => by cases t) (fun _ => M.Conv_bind (impl_isFinite_ok g) ((M.Conv_ret _).of (by rw [hg]; rfl)))) (M.TC_ite (fun t => by cases t) (fun _ => M.TC_bindC (pow_ok' h) ?_)))
  rw [ew]
  by_cases ok : okTo a (unitM a.length) (k + c)
  · have hmax : max 1 (k + c + 1) = k + c + 1 := by omega
    have g2 := grow_good hs (m := 1) (by omega) (by omega) (by omega) ok
    rw [hmax] at g2
    have mi := hs.pm ok (i := k) (by omega)
    have mk := hs.pm ok (i := k + c) (by omega)
    have li := (hs.shp k).2
    have lk := (hs.shp (k + c)).2
    obtain ⟨g0, b, _, k2, k3, k4, k5⟩ := gap_same mi mk (by omega)
    have r1 : M.Conv (M.idx (oS a (unitM a.length) (k + c + 1)).list (k : Int)) (pw a (unitM a.length) k) := idx_tab (by omega)
    have r2 : M.Conv (M.idx (oS a (unitM a.length) (k + c + 1)).list ((k + c : Nat) : Int)) (pw a (unitM a.length) (k + c)) := idx_tab (by omega)
    have hbot := row_bot mi
    refine M.TC_bindC g2 (M.TC_ite (fun t => by cases t) (fun _ => M.TC_bindC r1 (M.TC_bindC r2 (M.TC_bindC k2 (M.TC_bind (Mid := fun w => ShiftM (pw a (unitM a.length) k) (pw a (unitM a.length) (k + c)) a.length a.length g → w = true) ?_ fun w hw => M.TC_ret (.inr ⟨ok, rfl, hw⟩))))))
    cases b with
    | false =>
      refine M.TC_ite (fun t => by cases t) (fun _ => M.TC_ret fun hsh => ?_)
      rw [← li] at hsh
      have := (k5 g (by rw [li] at hsh ⊢; exact hsh)).1
      cases this
    | true =>
      refine M.TC_ite (fun _ => ?_) (fun t => by cases t)
      refine M.TC_bindC (x := (g0 == g) || botB (pw a (unitM a.length) k)) (Conv_or fun _ => M.Conv_bind r1 (M.Conv_bind hbot (M.Conv_ret _))) (M.TC_ret fun hsh => ?_)
      have h5 := (k5 g (by rw [li]; exact hsh)).2
      rw [Bool.or_eq_true, beq_iff_eq, botB_iff mi]
      exact h5.imp Eq.symm id
  · obtain ⟨s2, g2⟩ := grow_bad hs (m := 1) (k := k + c) (by omega) (by omega) (by omega) hs.zero ok
    exact M.TC_bindC g2 (M.TC_ite (fun _ => M.TC_ret (.inl ⟨rfl, ok⟩)) (fun t => by cases t))

theorem inI64_of {x : Int} (h : -9000000000000000000 ≤ x ∧ x ≤ 9000000000000000000) : inI64 x := by unfold inI64; omega
theorem DrawPowersRepeat_ok {code : List Int} (hc : ByC code) : M.TC (spec_DrawPowersRepeat code) (fun r => MatS r ∧ SmM r) := by
  unfold spec_DrawPowersRepeat
  exact M.TC_bind (from_ok hc) fun s hs => M.TC_bind (TC_and (draw7_ok hc hs) (draw7_sm hc hs)) fun x hx => M.TC_ret ⟨hx.1.1, hx.2⟩
theorem DrawIsRepeat_ok {code : List Int} (hc : ByC code) : M.TC (spec_DrawIsRepeat code) (fun r => MatS r.1 ∧ inI64 r.2.1 ∧ inI64 r.2.2.1 ∧ inI64 r.2.2.2) := by
  unfold spec_DrawIsRepeat
  refine M.TC_bind (from_ok hc) fun s hs => ?_
  rw [hs.code_]
  refine M.TC_bind (draw7_ok hc hs) fun x hx => ?_
  obtain ⟨hm, hx⟩ := hx
  obtain ⟨w, w1, _, w3⟩ := powers_Two x.1 hm.sm
  refine M.TC_bindC w1 (M.TC_bind (Mid := fun (r : Int × Int × Bool) => Src code ⟨code, r.1, r.2.1⟩ ∧ (r.2.2 = false → w.2.2.2 = 0)) (M.TC_ite (fun _ => M.TC_ret ⟨hx.mk' rfl, fun t => by cases t⟩) (fun t => M.TC_bind (next_ok hc (hx.mk' rfl) 4 (by omega)) fun y hy => M.TC_ret ⟨hy.1.mk' rfl, fun _ => by simpa using t⟩)) fun r hr => ?_)
  obtain ⟨h1, h2⟩ := hr
  refine M.TC_ite (fun _ => ?_) (fun t => ?_)
  · exact M.TC_bind (next_ok hc h1 12 (by omega)) fun y hy => M.TC_bind (next_ok hc (hy.1.mk' rfl) 5 (by omega)) fun z hz => M.TC_bind (next_ok hc (hz.1.mk' rfl) 60 (by omega)) fun u hu => M.TC_ret ⟨hm, inI64_of (by have := hy.2; (try simp only); omega), w64_bd _, w64_bd _⟩
  · obtain ⟨k, c, ek, ec, hp⟩ := w3 (h2 t)
    have hkc := hp.kc
    have hc1 := hp.c1
    have hg := hp.g2
    have gk : inI64 w.1 := inI64_of (by omega)
    have gc : inI64 w.2.1 := inI64_of (by omega)
    have gg : inI64 w.2.2.1 := inI64_of (by omega)
    refine M.TC_bind (next_ok hc h1 8 (by omega)) fun y hy => M.TC_ite (fun _ => ?_) (fun _ => M.TC_ite (fun _ => ?_) (fun _ => M.TC_ite (fun _ => ?_) (fun _ => ?_)))
    · refine M.TC_bind (pick_ok hc (hy.1.mk' rfl) _ (by simp) (by simp) inI64 (by simp; exact ⟨by unfold inI64; omega, by unfold inI64; omega, gk⟩)) fun z hz => M.TC_bind (pick_ok hc (hz.1.mk' rfl) _ (by simp) (by simp) inI64 (by simp [inI64])) fun u hu => M.TC_ret ⟨hm, hz.2, hu.2, gg⟩
    · refine M.TC_bind (pick_ok hc (hy.1.mk' rfl) _ (by simp) (by simp) inI64 (by simp; exact ⟨w64_bd _, by unfold inI64; omega⟩)) fun z hz => M.TC_ret ⟨hm, gk, gc, hz.2⟩
    · refine M.TC_ret ⟨hm, ?_, gc, gg⟩
      (try simp only)
      have : inI64 (w64 (w.1 - 1)) := w64_bd _
      unfold mx
      split
      · assumption
      · unfold inI64; omega
    · refine M.TC_bind (next_ok hc (hy.1.mk' rfl) 4 (by omega)) fun z hz => M.TC_ret ⟨hm, ?_, gc, gg⟩
      (try simp only)
      have : inI64 (w64 (w.1 + z.1)) := w64_bd _
      unfold mn
      split
      · assumption
      · unfold inI64; omega
/-- the last part: an irreducible matrix's least period -/
theorem rep_tail {a : List (List Int)} (sa : smII a) {k c : Nat} {g : Int} (hp : PRep a k c g) (hg : -1000000 ≤ g ∧ g ≤ 1000000) :
    M.Conv (M.bind (impl_IsIrreducible a) (fun x18 => M.bind (impl_CycleMean a) (fun x19 => M.ite (((x18.2 != 0) || (x19.2 != 0)) || (!x18.1)) (M.ret (x18.2 == 0)) (M.bind (impl_Cyclicity a) (fun x22 => M.ret ((((w64 (g * x19.1.Den)) == (w64 ((c : Int) * x19.1.Num))) && (x22.2 == 0)) && ((c : Int) == x22.1))))))) true := by
  have hq := hp.sq
  have hm := sq_mat hq
  have hrows := hm.rows
  have hkc := hp.kc
  have hc1 := hp.c1
  obtain ⟨rr, _, k2, _⟩ := components_both hm.shp
  have hirr : M.Conv (impl_IsIrreducible a) ((((compsF rr a.length).length : Int) == 1), 0) := by
    unfold impl_IsIrreducible
    exact M.Conv_bind (impl_isSquare_ok sa) (M.Conv_ite (fun t => by rw [hq] at t; cases t) (fun _ => M.Conv_bind k2 (M.Conv_ret _)))
  apply M.TC.conv
  refine M.TC_bindC hirr (M.TC_bind (CycleMean_tc sa hq) fun mu hmu => M.TC_ite (fun _ => M.TC_ret rfl) (fun t => ?_))
  simp only [Bool.or_eq_false_iff, bne_eq_false_iff_eq] at t
  have h0 : mu.2 = 0 := t.1.2
  obtain ⟨_, l', W', hmc, hrp⟩ := (hmu.resolve_left fun q => by omega).resolve_left fun q => by omega
  obtain ⟨w, c1, c2⟩ := critical_both sa hq
  obtain ⟨hw, c2, c3, l, W, r, S, hC, ew, c4⟩ := c2.resolve_left fun q => q.2.1 _ _ hmc.wc.cl
  have er : mu.1 = r := hmc.same hC.mc hrp hC.rp
  obtain ⟨u, d⟩ := (shift_walk hq (hp.ok.mono (by omega)) hp.ok g).1 hp.sh
  have hmean := hC.mean hc1 u d
  obtain ⟨G, cG, G1, G2, G3⟩ := Cyclicity_tc hm hC c1 hw ew (by rw [← ew]; exact c3) c4 ⟨hc1, by omega⟩ (fun v m hz e he => hC.dvdc hmean u hz he)
  have hG := hC.least hm hq hc1 hp.ok u d hp.min G1 G2 G3
  have hb := hC.mc.wc.cl.bd (mat_ent hm)
  have hlen := hC.mc.wc.len
  obtain ⟨b1, b2⟩ := hC.rp.bds (by omega)
  refine M.TC_bindC cG (M.TC_ret ?_)
  rw [er, hmean, hG]
  simp
theorem FnRepeats_ok (code : List Int) (h : fitL inU8 code) : M.Conv (laws_FnRepeats code) true := by
  apply M.TC.conv
  unfold laws_FnRepeats
  refine M.TC_bindC (big_ok code) (M.TC_ite (fun _ => M.TC_ret rfl) (fun hb => ?_))
  have hbc := ByC.of h hb
  refine M.TC_bind (DrawPowersRepeat_ok hbc) fun a ha => ?_
  obtain ⟨ha, hsm⟩ := ha
  obtain ⟨w, w1, w2, w3⟩ := powers_Two a ha.sm
  refine M.TC_bindC w2 (M.TC_bindC w1 (M.TC_bind (DrawIsRepeat_ok hbc) fun d hd => ?_))
  obtain ⟨d1, d2, d3, d4⟩ := hd
  obtain ⟨v, v1, v2, _⟩ := same_IsRepeat d.1 d1.fit d.2.1 d2 d.2.2.1 d3 d.2.2.2 d4 d1.sm
  refine M.TC_bindC v2 (M.TC_bindC v1 (M.TC_ite (fun t => by simp at t) (fun _ => M.TC_ite (fun _ => M.TC_ret rfl) (fun t => ?_))))
  obtain ⟨k, c, ek, ec, hp⟩ := w3 (by simpa using t)
  have hq := hp.sq
  have hc1 := hp.c1
  have hkc := hp.kc
  have hs := ser_pow hq
  rw [ek, ec]
  have hg := growth_smallM hq hsm hc1 hkc hp.ok hp.sh hp.min hp.nz
  have hf : finB w.2.2.1 = true := by simp [finB, hg.1, hg.2]
  have tail := rep_tail ha.sm hp hg
  refine M.TC_bind (isRepeat_tc ha.sm hq hc1 hkc hf) fun y hy => ?_
  obtain ⟨_, y2, y3⟩ := hy.resolve_left fun q => q.2 hp.ok
  have y4 := y3 hp.sh
  refine M.TC_ite (fun t => by rw [y2, y4] at t; cases t) (fun _ => M.TC_ite (fun t => ?_) (fun _ => tail.tc rfl))
  have e1 : w64 ((k : Int) + (c : Int)) = ((k + c : Nat) : Int) := by rw [w64_eq _ (by omega)]; omega
  rw [e1] at t
  have t := of_decide_eq_true t
  have e2 : w64 ((k : Int) + 1) = ((k + 1 : Nat) : Int) := by rw [w64_eq _ (by omega)]; omega
  rw [e2]
  refine M.TC_bind (isRepeat_tc (k := k + 1) ha.sm hq hc1 (by omega) hf) fun z hz => M.TC_ite (fun t => ?_) (fun _ => tail.tc rfl)
  exfalso
  rcases hz with ⟨e, _⟩ | ⟨ok, z2, z3⟩
  · rw [e] at t; cases t
  · rw [show k + 1 + c = k + c + 1 by omega] at ok z3
    have := z3 (shift_on hs hp.sh 1 ok)
    rw [z2, this] at t; cases t

end Go.Proofs.Ytelopfgolahlpaa
