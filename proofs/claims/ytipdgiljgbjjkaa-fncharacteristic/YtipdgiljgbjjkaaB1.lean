/-
  Plain proofs: the plain program of the law ends with true.
  Conditions: None beyond the given statement.
-/
import Derived.Test.YtipdgiljgbjjkaaB
namespace Go.Proofs.Ytipdgiljgbjjkaa
open Go
theorem ratio_ok {x d : Int} (hx : -9000000000000000000 ≤ x ∧ x ≤ 9000000000000000000) (hd : 0 < d ∧ d ≤ 9000000000000000000) : ∃ r, M.Conv (spec_l01Ratio x d) r ∧ M.Conv (impl_ratioOf x d) r ∧ RatP x d r := by
  have hg : 0 < Nat.gcd x.natAbs d.natAbs := Nat.gcd_pos_of_pos_right _ (by omega)
  have k1 := divisor_gcd hx (b := d) ⟨by omega, by omega⟩
  have k2 := divisorI_gcd (a := x.natAbs) (b := d.natAbs)
  have ed : ((d.natAbs : Nat) : Int) = d := Int.natAbs_of_nonneg (by omega)
  rw [ed] at k2
  have dx : Nat.gcd x.natAbs d.natAbs ∣ x.natAbs := Nat.gcd_dvd_left _ _
  have dd : Nat.gcd x.natAbs d.natAbs ∣ d.natAbs := Nat.gcd_dvd_right _ _
  have cop : Nat.gcd (x.natAbs / Nat.gcd x.natAbs d.natAbs) (d.natAbs / Nat.gcd x.natAbs d.natAbs) = 1 := by
    rw [Nat.gcd_div dx dd, Nat.div_self hg]
  generalize Nat.gcd x.natAbs d.natAbs = G at k1 k2 hg dx dd cop
  have hG : ((G : Int) != 0) = true := by simp; omega
  obtain ⟨p, hp⟩ := dx
  obtain ⟨q, hq⟩ := dd
  have hx2 : ∃ s : Int, (s = 1 ∨ s = -1) ∧ x = (G : Int) * (s * p) := by
    by_cases h : 0 ≤ x
    · exact ⟨1, .inl rfl, by rw [Int.one_mul, ← Int.natCast_mul, ← hp]; omega⟩
    · exact ⟨-1, .inr rfl, by rw [Int.neg_one_mul, Int.mul_neg, ← Int.natCast_mul, ← hp]; omega⟩
  obtain ⟨s, hs, hx2⟩ := hx2
  have hd2 : d = (G : Int) * q := by rw [← Int.natCast_mul, ← hq]; omega
  have e1 : x.tdiv (G : Int) = s * p := by rw [hx2]; exact Int.mul_tdiv_cancel_left _ (by omega)
  have e2 : d.tdiv (G : Int) = q := by rw [hd2]; exact Int.mul_tdiv_cancel_left _ (by omega)
  have hq1 : 0 < q := by
    cases q with
    | zero => rw [Nat.mul_zero] at hq; omega
    | succ q => omega
  have hpb : p ≤ x.natAbs := by rw [hp]; exact Nat.le_mul_of_pos_left _ hg
  have hqb : q ≤ d.natAbs := by rw [hq]; exact Nat.le_mul_of_pos_left _ hg
  have w1 : w64 (s * p) = s * p := w64_eq _ (by rcases hs with rfl | rfl <;> omega)
  have w2 : w64 (q : Int) = q := w64_eq _ (by omega)
  have h0 : M.Conv (M.ite (decide (d < 0)) (M.ret ((w64 (0 - x)), (w64 (0 - d)))) (M.ret (x, d))) (x, d) := M.Conv_ite (fun q => by have := of_decide_eq_true q; omega) (fun _ => M.Conv_ret _)
  refine ⟨⟨s * p, q⟩, ?_, ?_, ⟨by simp only; omega, ⟨G, by omega, hx2, hd2⟩, ?_⟩⟩
  · unfold spec_l01Ratio
    refine M.Conv_bind h0 (M.Conv_bind k1 (M.Conv_bind (M.Conv_guard hG) (M.Conv_bind (M.Conv_guard hG) ((M.Conv_ret _).of ?_))))
    simp only [e1, e2, w1, w2]
  · unfold impl_ratioOf
    refine M.Conv_bind h0 (M.Conv_bind (absI_ok hx) (M.Conv_bind k2 (M.Conv_bind (M.Conv_guard hG) (M.Conv_bind (M.Conv_guard hG) ((M.Conv_ret _).of ?_)))))
    simp only [e1, e2, w1, w2]
  · have a1 : (s * (p : Int)).natAbs = p := by rcases hs with rfl | rfl <;> omega
    have a2 : ((q : Nat) : Int).natAbs = q := by omega
    have e3 : x.natAbs / G = p := by rw [hp]; exact Nat.mul_div_cancel_left _ hg
    have e4 : d.natAbs / G = q := by rw [hq]; exact Nat.mul_div_cancel_left _ hg
    rw [e3, e4] at cop
    simp only [a1, a2]
    exact cop
theorem cop_eq {a b c d : Int} (hb : 0 < b) (hd : 0 < d) (h1 : Nat.gcd a.natAbs b.natAbs = 1) (h2 : Nat.gcd c.natAbs d.natAbs = 1) (h : a * d = c * b) : a = c ∧ b = d := by
  have hn : a.natAbs * d.natAbs = c.natAbs * b.natAbs := by rw [← Int.natAbs_mul, ← Int.natAbs_mul, h]
  have d1 : b.natAbs ∣ d.natAbs := by
    have : b.natAbs ∣ a.natAbs * d.natAbs := by rw [hn]; exact Nat.dvd_mul_left _ _
    exact Nat.Coprime.dvd_of_dvd_mul_left (Nat.Coprime.symm h1) this
  have d2 : d.natAbs ∣ b.natAbs := by
    have : d.natAbs ∣ c.natAbs * b.natAbs := by rw [← hn]; exact Nat.dvd_mul_left _ _
    exact Nat.Coprime.dvd_of_dvd_mul_left (Nat.Coprime.symm h2) this
  have e := Nat.dvd_antisymm d1 d2
  have e2 : b = d := by omega
  subst e2
  exact ⟨Int.eq_of_mul_eq_mul_right (by omega) h, rfl⟩
theorem RatP.eq_iff {x d x' d' : Int} {r r' : TRatio} (hd : 0 < d) (hd' : 0 < d') (h : RatP x d r) (h' : RatP x' d' r') : r = r' ↔ x * d' = x' * d := by
  obtain ⟨g, g0, rfl, rfl⟩ := h.mul
  obtain ⟨g', g0', rfl, rfl⟩ := h'.mul
  constructor
  · rintro rfl; grind
  · intro e
    have : (g * g') * (r.Num * r'.Den) = (g * g') * (r'.Num * r.Den) := by grind
    have := Int.eq_of_mul_eq_mul_left (by have := Int.mul_pos g0 g0'; omega) this
    obtain ⟨e1, e2⟩ := cop_eq h.pos h'.pos h.cop h'.cop this
    cases r; cases r'
    simp only at e1 e2
    subst e1; subst e2; rfl

theorem line_le {D A yp yi yk p i k : Int} (a : (yp - yi) * (k - i) ≤ (yk - yi) * (p - i)) (hs : A * (k - i) = D * (yi - yk)) (hik : i < k) (hD : 0 < D) : D * yp + A * p ≤ D * yi + A * i := by
  have a1 := Int.mul_le_mul_of_nonneg_left a (show 0 ≤ D by omega)
  have e : A * (k - i) * (p - i) = D * (yi - yk) * (p - i) := by rw [hs]
  refine mul_le_cancel (c := k - i) (by omega) ?_
  grind
theorem line_lt {D A yp yi yk p i k : Int} (a : (yp - yi) * (k - i) < (yk - yi) * (p - i)) (hs : A * (k - i) = D * (yi - yk)) (hik : i < k) (hD : 0 < D) : D * yp + A * p < D * yi + A * i := by
  have a1 := Int.mul_lt_mul_of_pos_left a hD
  have e : A * (k - i) * (p - i) = D * (yi - yk) * (p - i) := by rw [hs]
  refine mul_lt_cancel (c := k - i) (by omega) ?_
  grind
theorem left_lt {yp yi yk yg p i k g : Int} (a : (yp - yi) * (i - g) ≤ (yi - yg) * (p - i)) (st : (yk - yi) * (i - g) < (yi - yg) * (k - i)) (hp : p < i) (hg : g < i) (hk : i < k) : (yp - yi) * (k - i) < (yk - yi) * (p - i) := by
  have a1 := Int.mul_le_mul_of_nonneg_right a (show 0 ≤ k - i by omega)
  have a2 := Int.mul_lt_mul_of_pos_right st (show 0 < i - p by omega)
  refine mul_lt_cancel (c := i - g) (by omega) ?_
  grind
theorem right_lt {yp yi yk yg p i k g : Int} (a : (yp - yk) * (g - k) ≤ (yg - yk) * (p - k)) (st : (yg - yk) * (k - i) < (yk - yi) * (g - k)) (hp : k < p) (hg : k < g) (hk : i < k) : (yp - yi) * (k - i) < (yk - yi) * (p - i) := by
  have a1 := Int.mul_le_mul_of_nonneg_right a (show 0 ≤ k - i by omega)
  have a2 := Int.mul_lt_mul_of_pos_right st (show 0 < p - k by omega)
  have a3 : (yp - yk) * (k - i) * (g - k) < (yk - yi) * (p - k) * (g - k) := by grind
  have a4 := mul_lt_cancel (by omega) a3
  grind
theorem slope_end {D A yR yi yk R i k : Int} (sR : (yR - yi) * (k - i) ≤ (yk - yi) * (R - i)) (he : D * yR + A * R = D * yi + A * i) (tk : D * yk + A * k ≤ D * yi + A * i) (hR : i < R) (hD : 0 < D) : A * (k - i) = D * (yi - yk) := by
  have a := Int.mul_le_mul_of_nonneg_left sR (show 0 ≤ D by omega)
  have e : (D * yR + A * R) * (k - i) = (D * yi + A * i) * (k - i) := by rw [he]
  have b : (D * (yi - yk)) * (R - i) ≤ (A * (k - i)) * (R - i) := by grind
  have := mul_le_cancel (by omega) b
  rw [Int.mul_sub, Int.mul_sub] at this ⊢
  omega
theorem slope_mid {D A yL yi yk L i k : Int} (sL : (yL - yi) * (k - i) ≤ (yk - yi) * (L - i)) (ti : D * yi + A * i ≤ D * yL + A * L) (tk : D * yk + A * k ≤ D * yL + A * L) (h1 : i < L) (h2 : L < k) (hD : 0 < D) : A * (k - i) = D * (yi - yk) := by
  have a := Int.mul_le_mul_of_nonneg_left sL (show 0 ≤ D by omega)
  have c1 := Int.mul_le_mul_of_nonneg_right ti (show 0 ≤ k - L by omega)
  have c2 := Int.mul_le_mul_of_nonneg_right tk (show 0 ≤ L - i by omega)
  have d1 : (D * yL + A * L) * (k - L) ≤ (D * yi + A * i) * (k - L) := by grind
  have d2 : (D * yL + A * L) * (L - i) ≤ (D * yk + A * k) * (L - i) := by grind
  have e1 := mul_le_cancel (by omega) d1
  have e2 := mul_le_cancel (by omega) d2
  rw [Int.mul_sub, Int.mul_sub]
  omega
structure Face (F : Int → Prop) (y : Int → Int) (A D L R : Int) : Prop where
  fl : F L
  fr : F R
  le : L ≤ R
  top : ∀ p, F p → D * y p + A * p ≤ D * y L + A * L
  eq : D * y R + A * R = D * y L + A * L
  all : ∀ p, F p → D * y p + A * p = D * y L + A * L → L ≤ p ∧ p ≤ R
structure PolH (c ts : List Int) : Prop where
  ok : TsOK c ts
  pair : ∀ (q : Nat) (i k : Int), ts[q]? = some i → ts[q + 1]? = some k → Sup (finK c c.length) (yC c) i k
  stp : ∀ (q : Nat) (h i k : Int), ts[q]? = some h → ts[q + 1]? = some i → ts[q + 2]? = some k → Stp (yC c) h i k
  fst : ∀ (t p : Int), ts[0]? = some t → finK c c.length p → t ≤ p
  lst : ∀ (t p : Int), ts[ts.length - 1]? = some t → finK c c.length p → p ≤ t
  fin : ∀ t ∈ ts, finK c c.length t
theorem polH_of {c : List Int} (h : polyB c = true) : PolH c (hullL c c.length).reverse := by
  obtain ⟨hts, _, _⟩ := ts_of h
  obtain ⟨hh, htop⟩ := hullL_ok (c := c) c.length (Nat.le_refl _)
  have finrs : ∀ t ∈ (hullL c c.length).reverse, finK c c.length t := fun t ht => by
    obtain ⟨b0, b1, x, hx, hb⟩ := hts.bd t ht
    exact ⟨⟨b0, x, hx, fun e => by rw [e] at hb; simp [finB] at hb⟩, b1⟩
  have least : ∀ (l : List Int), HullR (finK c c.length) (yC c) l → ∀ p t, finK c c.length p → l.getLast? = some t → t ≤ p := by
    intro l
    induction l with
    | nil => intro _ p t _ h; simp at h
    | cons j l ih =>
      intro hl p t hp ht
      cases l with
      | nil =>
        simp at ht
        subst ht
        exact hl.2 p hp
      | cons i r => exact ih hl.tail p t hp (by rw [List.getLast?_cons_cons] at ht; exact ht)
  refine ⟨hts, fun q i k h1 h2 => ?_, fun q h i k h1 h2 h3 => ?_, fun t p ht hp => ?_, fun t p ht hp => ?_, finrs⟩
  · obtain ⟨g1, g2⟩ := rev_pair h1 h2
    exact (hull_pair hh _ i k g1 g2).2.1
  · obtain ⟨g1, g2⟩ := rev_pair h2 h3
    obtain ⟨g3, g4⟩ := rev_pair h1 h2
    have hl := (List.getElem?_eq_some_iff.1 h3).1
    rw [List.length_reverse] at hl
    refine (hull_pair hh _ i k g1 g2).2.2 h ?_
    rw [show (hullL c c.length).length - 2 - (q + 1) + 2 = (hullL c c.length).length - 2 - q + 1 by omega]
    exact g4
  · rw [← List.head?_eq_getElem?, List.head?_reverse] at ht
    exact least _ hh p t hp ht
  · obtain ⟨t', r, e, hle⟩ := htop p hp
    rw [e] at ht
    simp at ht
    subst ht
    exact hle
theorem PolH.edge {c ts : List Int} (h : PolH c ts) {q : Nat} {i k A D : Int} (h1 : ts[q]? = some i) (h2 : ts[q + 1]? = some k) (hD : 0 < D) (hs : A * (k - i) = D * (yC c i - yC c k)) : Face (finK c c.length) (yC c) A D i k := by
  have hik := h.ok.lt h1 h2 (by omega)
  have hsup := h.pair q i k h1 h2
  refine ⟨h.fin i (List.mem_of_getElem? h1), h.fin k (List.mem_of_getElem? h2), by omega, fun p hp => line_le (hsup p hp) hs hik hD, ?_, fun p hp he => ?_⟩
  · clear hsup h1 h2 h
    grind
  · constructor
    · refine Classical.byContradiction fun hc => ?_
      have hc : p < i := by omega
      cases q with
      | zero => have := h.fst i p h1 hp; omega
      | succ q =>
        obtain ⟨g, hg⟩ : ∃ t, ts[q]? = some t := ⟨_, List.getElem?_eq_getElem (by have := (List.getElem?_eq_some_iff.1 h1).1; omega)⟩
        have hgi := h.ok.lt hg h1 (by omega)
        have := line_lt (left_lt (sup_right (h.pair q g i hg h1) p hp) (h.stp q g i k hg h1 h2) hc hgi hik) hs hik hD
        omega
    · refine Classical.byContradiction fun hc => ?_
      have hc : k < p := by omega
      by_cases hlast : q + 2 < ts.length
      · obtain ⟨g, hg⟩ : ∃ t, ts[q + 2]? = some t := ⟨_, List.getElem?_eq_getElem hlast⟩
        have hkg := h.ok.lt h2 hg (by omega)
        have := line_lt (right_lt (h.pair (q + 1) k g h2 hg p hp) (h.stp q i k g h1 h2 hg) hc hkg hik) hs hik hD
        omega
      · have hl := (List.getElem?_eq_some_iff.1 h2).1
        have := h.lst k p (by rw [show ts.length - 1 = q + 1 by omega]; exact h2) hp
        omega
theorem locate2 {c ts : List Int} (h : TsOK c ts) {p t0 : Int} (g0 : ts[0]? = some t0) (hp : t0 ≤ p) : ∀ (m : Nat) (tm : Int), ts[m]? = some tm → p < tm → ∃ (q : Nat) (i k : Int), ts[q]? = some i ∧ ts[q + 1]? = some k ∧ i ≤ p ∧ p < k
  | 0, tm, gm, hm => by
    rw [g0] at gm; cases gm
    omega
  | m + 1, tm, gm, hm => by
    have hl := (List.getElem?_eq_some_iff.1 gm).1
    obtain ⟨s, gs⟩ : ∃ t, ts[m]? = some t := ⟨_, List.getElem?_eq_getElem (by omega)⟩
    by_cases e : p < s
    · exact locate2 h g0 hp m s gs e
    · exact ⟨m, s, tm, gs, gm, by omega, hm⟩
theorem PolH.of_face {c ts : List Int} (h : PolH c ts) {A D L R : Int} (hD : 0 < D) (f : Face (finK c c.length) (yC c) A D L R) (hLR : L < R) : ∃ q : Nat, ts[q]? = some L ∧ ts[q + 1]? = some R := by
  have hne := List.length_pos_iff.2 h.ok.ne
  obtain ⟨t0, g0⟩ : ∃ t, ts[0]? = some t := ⟨_, List.getElem?_eq_getElem hne⟩
  obtain ⟨tm, gm⟩ : ∃ t, ts[ts.length - 1]? = some t := ⟨_, List.getElem?_eq_getElem (by omega)⟩
  have hR := h.lst tm R gm f.fr
  obtain ⟨q, i, k, h1, h2, h3, h4⟩ := locate2 h.ok g0 (h.fst t0 L g0 f.fl) _ tm gm (show L < tm by omega)
  have hik := h.ok.lt h1 h2 (by omega)
  have sL := h.pair q i k h1 h2 L f.fl
  have sR := h.pair q i k h1 h2 R f.fr
  have ti := f.top i (h.fin i (List.mem_of_getElem? h1))
  have tk := f.top k (h.fin k (List.mem_of_getElem? h2))
  have hs : A * (k - i) = D * (yC c i - yC c k) := by
    by_cases e : i = L
    · subst e
      exact slope_end sR f.eq tk hLR hD
    · exact slope_mid sL ti tk (by omega) h4 hD
  have fe := h.edge h1 h2 hD hs
  -- both faces are one
  have e1 := f.all i fe.fl (by have := fe.top L f.fl; omega)
  have e2 := fe.all L f.fl (by have := f.top i fe.fl; have := fe.top L f.fl; omega)
  have e3 := f.all k fe.fr (by have := fe.eq; have := fe.top L f.fl; omega)
  have e4 := fe.all R f.fr (by have := f.eq; have := f.top i fe.fl; have := fe.top L f.fl; omega)
  have hi : i = L := by omega
  have hk : k = R := by omega
  rw [hi] at h1
  rw [hk] at h2
  exact ⟨q, h1, h2⟩
theorem face_exists {F : Int → Prop} (y : Int → Int) (A D : Int) : ∀ n : Nat, (∃ p, F p ∧ 0 ≤ p ∧ p < n) → ∃ L R, Face (fun p => F p ∧ 0 ≤ p ∧ p < n) y A D L R
  | 0, ⟨p, _, h1, h2⟩ => by omega
  | n + 1, hex => by
    by_cases h0 : ∃ p, F p ∧ 0 ≤ p ∧ p < n
    · obtain ⟨L, R, f⟩ := face_exists y A D n h0
      have up : ∀ p, (F p ∧ 0 ≤ p ∧ p < (n : Int)) → F p ∧ 0 ≤ p ∧ p < ((n + 1 : Nat) : Int) := fun p h => ⟨h.1, h.2.1, by omega⟩
      by_cases hn : F n
      · have hnn : F (n : Int) ∧ (0 : Int) ≤ n ∧ (n : Int) < ((n + 1 : Nat) : Int) := ⟨hn, by omega, by omega⟩
        have old : ∀ p, (F p ∧ 0 ≤ p ∧ p < ((n + 1 : Nat) : Int)) → p = n ∨ (F p ∧ 0 ≤ p ∧ p < (n : Int)) := fun p h => by
          by_cases e : p = n
          · exact .inl e
          · exact .inr ⟨h.1, h.2.1, by omega⟩
        have hl := f.fl.2.2
        have hr := f.fr.2.2
        by_cases c1 : D * y n + A * n = D * y L + A * L
        · refine ⟨L, n, up L f.fl, hnn, by omega, fun p hp => ?_, c1, fun p hp he => ?_⟩
          · rcases old p hp with rfl | hp
            · omega
            · exact f.top p hp
          · rcases old p hp with rfl | hp
            · omega
            · have := f.all p hp he; omega
        · by_cases c2 : D * y n + A * n < D * y L + A * L
          · refine ⟨L, R, up L f.fl, up R f.fr, f.le, fun p hp => ?_, f.eq, fun p hp he => ?_⟩
            · rcases old p hp with rfl | hp
              · omega
              · exact f.top p hp
            · rcases old p hp with rfl | hp
              · omega
              · exact f.all p hp he
          · refine ⟨n, n, hnn, hnn, by omega, fun p hp => ?_, rfl, fun p hp he => ?_⟩
            · rcases old p hp with rfl | hp
              · omega
              · have := f.top p hp; omega
            · rcases old p hp with rfl | hp
              · omega
              · have := f.top p hp; omega
      · have same : ∀ p, (F p ∧ 0 ≤ p ∧ p < ((n + 1 : Nat) : Int)) → F p ∧ 0 ≤ p ∧ p < (n : Int) := fun p h => ⟨h.1, h.2.1, by
          have : p ≠ n := fun e => hn (e ▸ h.1)
          omega⟩
        exact ⟨L, R, up L f.fl, up R f.fr, f.le, fun p hp => f.top p (same p hp), f.eq, fun p hp he => f.all p (same p hp) he⟩
    · obtain ⟨p, hp, h1, h2⟩ := hex
      have e : p = n := by
        refine Classical.byContradiction fun hc => h0 ⟨p, hp, h1, by omega⟩
      subst e
      have only : ∀ q, (F q ∧ 0 ≤ q ∧ q < ((n + 1 : Nat) : Int)) → q = n := fun q h => Classical.byContradiction fun hc => h0 ⟨q, h.1, h.2.1, by omega⟩
      exact ⟨n, n, ⟨hp, by omega, by omega⟩, ⟨hp, by omega, by omega⟩, by omega, fun q hq => by rw [only q hq]; exact Int.le_refl _, rfl, fun q hq _ => by have := only q hq; omega⟩
theorem face_of {c ts : List Int} (h : PolH c ts) (A D : Int) : ∃ L R, Face (finK c c.length) (yC c) A D L R := by
  have e : finK c c.length = fun p => finC c p ∧ 0 ≤ p ∧ p < c.length := by
    funext p
    exact propext ⟨fun h => ⟨h.1, h.1.1, h.2⟩, fun h => ⟨h.1, h.2.2⟩⟩
  rw [e]
  refine face_exists _ A D c.length ?_
  obtain ⟨t, ht⟩ := List.exists_mem_of_ne_nil _ h.ok.ne
  have := h.fin t ht
  exact ⟨t, this.1, this.1.1, this.2⟩
structure CornV (c ts : List Int) (cs : List TCorner) : Prop where
  len : cs.length + 1 = ts.length
  at_ : ∀ (q : Nat) (i k : Int), ts[q]? = some i → ts[q + 1]? = some k → ∃ x, cs[q]? = some x ∧ x.Times = k - i ∧ RatP (yC c i - yC c k) (k - i) x.At
theorem ts_len {c ts : List Int} (h : TsOK c ts) (hc : c.length ≤ 12) : ts.length ≤ 12 := by
  have : ∀ (l : List Int) (lo : Int), List.Pairwise (fun a b => a < b) l → (∀ t ∈ l, lo ≤ t ∧ t < c.length) → (l.length : Int) ≤ max 0 (c.length - lo) := by
    intro l
    induction l with
    | nil => intro lo _ _; simp; omega
    | cons a l ih =>
      intro lo hp hm
      have := ih (a + 1) (List.pairwise_cons.1 hp).2 fun t ht => ⟨(List.pairwise_cons.1 hp).1 t ht, (hm t (List.mem_cons_of_mem _ ht)).2⟩
      have := hm a List.mem_cons_self
      simp only [List.length_cons]
      omega
  have := this ts 0 h.inc fun t ht => ⟨(h.bd t ht).1, (h.bd t ht).2.1⟩
  omega
theorem corners_tc {c : List Int} (hc : polyB c = true) : M.TC (impl_CornersOf c) (fun w => w.2 = 3 ∨ (w.2 = 0 ∧ CornV c (hullL c c.length).reverse w.1)) := by
  obtain ⟨h1, h2, h3⟩ := polyB_len hc
  obtain ⟨hts, _, hI⟩ := ts_of hc
  generalize (hullL c c.length).reverse = ts at hts hI ⊢
  have hne := List.length_pos_iff.2 hts.ne
  have tl := ts_len hts h1
  unfold impl_CornersOf
  refine M.TC_bindC (impl_IsPolynomial_ok (by omega)) (M.TC_ite (fun t => by rw [hc] at t; cases t) (fun _ => M.TC_bindC hI ?_))
  refine M.TC_bind (Mid := fun (y : List TCorner ⊕ (List TCorner × Int)) => (∃ cs, y = .inl cs ∧ CornV c ts cs) ∨ ∃ q, y = .inr (q, 3)) (M.TC_for (fun m (s : List TCorner) => (s.length : Int) + 1 = m ∧ ∀ (q : Nat) (i k : Int), (q : Int) + 1 < m → ts[q]? = some i → ts[q + 1]? = some k → ∃ x, s[q]? = some x ∧ x.Times = k - i ∧ RatP (yC c i - yC c k) (k - i) x.At) _ (by omega) (by omega) ⟨rfl, fun q i k hq => by omega⟩ (fun m s m0 m1 hI => ?_) (fun m s hm hI => ?_)) fun y hy => ?_
  · obtain ⟨hl, hs⟩ := hI
    obtain ⟨q, rfl⟩ : ∃ q : Nat, m = (q : Int) + 1 := ⟨(m - 1).toNat, by omega⟩
    obtain ⟨i, gi⟩ : ∃ t, ts[q]? = some t := ⟨_, List.getElem?_eq_getElem (by omega)⟩
    obtain ⟨k, gk⟩ : ∃ t, ts[q + 1]? = some t := ⟨_, List.getElem?_eq_getElem (by omega)⟩
    obtain ⟨i0, i1, bi⟩ := hts.at gi
    obtain ⟨k0, k1, bk⟩ := hts.at gk
    have hik := hts.lt gi gk (by omega)
    have ga : M.Conv (M.idx ts (w64 ((q : Int) + 1 - 1))) i := by
      rw [w64_eq _ (by omega)]
      exact M.Conv_get (by omega) (by rw [show ((q : Int) + 1 - 1).toNat = q by omega]; exact gi)
    have gb : M.Conv (M.idx ts ((q : Int) + 1)) k := M.Conv_get (by omega) (by rw [show ((q : Int) + 1).toNat = q + 1 by omega]; exact gk)
    obtain ⟨r, _, r2, r3⟩ := ratio_ok (x := yC c i - yC c k) (d := k - i) (by omega) (by omega)
    obtain ⟨b, _, b2, _⟩ := isRatio_same r
    have ew : w64 (yC c i - yC c k) = yC c i - yC c k := w64_eq _ (by omega)
    have ew2 : w64 (k - i) = k - i := w64_eq _ (by omega)
    refine M.TC_bindC ga (M.TC_bindC gb (M.TC_bindC (yC_conv i0 i1) (M.TC_bindC (yC_conv k0 k1) ?_)))
    rw [ew, ew2]
    refine M.TC_bindC r2 (M.TC_bindC b2 (M.TC_ite (fun _ => M.TC_ret (.inr ⟨_, rfl, .inr ⟨_, rfl⟩⟩)) (fun _ => M.TC_bindC (M.Conv_app (by simp; omega)) (M.TC_ret (.inl ⟨_, rfl, ?_, fun q' i' k' hq' g1 g2 => ?_⟩)))))
    · simp; omega
    · by_cases e : q' = q
      · subst e
        rw [gi] at g1; cases g1
        rw [gk] at g2; cases g2
        refine ⟨⟨r, k - i⟩, ?_, rfl, r3⟩
        have : s.length = q' := by omega
        rw [List.getElem?_append_right (by omega), this, Nat.sub_self]; rfl
      · obtain ⟨x, hx, h⟩ := hs q' i' k' (by omega) g1 g2
        have hlt := (List.getElem?_eq_some_iff.1 hx).1
        exact ⟨x, by rw [List.getElem?_append_left hlt]; exact hx, h⟩
  · obtain ⟨hl, hs⟩ := hI
    refine .inl ⟨s, rfl, by omega, fun q i k g1 g2 => hs q i k ?_ g1 g2⟩
    have := (List.getElem?_eq_some_iff.1 g2).1
    omega
  · rcases hy with ⟨cs, rfl, h⟩ | ⟨q, rfl⟩
    · exact M.TC_ret (.inr ⟨rfl, h⟩)
    · exact M.TC_ret (.inl rfl)
def chk7 (s : Nat) : Bool := (List.range 10).all fun j => bitN s j == 1 || (decide (s + 2 ^ j < 1024) && (List.range 10).all fun k => bitN (s + 2 ^ j) k == (bif k == j then 1 else bitN s k))
theorem chk7_all : ((List.range 1024).all chk7) = true := by decide +kernel
theorem bit_add {s j : Nat} (hs : s < 1024) (hj : j < 10) (h : bitN s j ≠ 1) : s + 2 ^ j < 1024 ∧ ∀ k, k < 10 → bitN (s + 2 ^ j) k = if k = j then 1 else bitN s k := by
  have g := chk7_all
  rw [List.all_eq_true] at g
  have g := g s (List.mem_range.2 hs)
  unfold chk7 at g
  rw [List.all_eq_true] at g
  have g := g j (List.mem_range.2 hj)
  rw [show (bitN s j == 1) = false by simpa using h] at g
  simp only [Bool.false_or, Bool.and_eq_true, decide_eq_true_eq, List.all_eq_true, List.mem_range, beq_iff_eq] at g
  refine ⟨g.1, fun k hk => ?_⟩
  rw [g.2 k hk]
  by_cases e : k = j
  · simp [e]
  · rw [show (k == j) = false by simpa using e, if_neg e]; rfl
def setN : List Nat → Nat
  | [] => 0
  | j :: l => setN l + 2 ^ j
theorem setN_ok {n : Nat} (hn : n ≤ 10) : ∀ (l : List Nat), l.Nodup → (∀ j ∈ l, j < n) → setN l < 2 ^ n ∧ popN (setN l) = l.length ∧ ∀ k, k < 10 → bitN (setN l) k = if k ∈ l then 1 else 0
  | [], _, _ => ⟨Nat.pow_pos (by decide), by decide, fun k hk => by
      have : ∀ k : Fin 10, bitN 0 k.val = 0 := by decide
      simpa [setN] using this ⟨k, hk⟩⟩
  | j :: l, hd, hl => by
    obtain ⟨h1, h2, h3⟩ := setN_ok hn l (List.nodup_cons.1 hd).2 fun x hx => hl x (List.mem_cons_of_mem _ hx)
    have hj := hl j List.mem_cons_self
    have hnj := (List.nodup_cons.1 hd).1
    obtain ⟨_, _, hN, _, _⟩ := pow_ok (n := n) hn
    have h0 : bitN (setN l) j = 0 := by rw [h3 j (by omega), if_neg hnj]
    obtain ⟨c1, c2⟩ := compl_ok hn h1
    have c2 := c2 j hj
    rw [h0] at c2
    have hb := ((bit_ok (s := 2 ^ n - 1 - setN l) (j := j) (by omega) (by omega)).one (by omega)).1
    obtain ⟨a1, a2⟩ := bit_add (s := setN l) (j := j) (by omega) (by omega) (by omega)
    have a3 := ((bit_ok (s := setN l + 2 ^ j) (j := j) a1 (by omega)).one (by rw [a2 j (by omega), if_pos rfl])).2.1
    have hp : 0 < 2 ^ j := Nat.pow_pos (by decide)
    refine ⟨by simp only [setN]; omega, ?_, fun k hk => ?_⟩
    · rw [Nat.add_sub_cancel, h2] at a3
      simp only [setN, List.length_cons]; omega
    · unfold setN
      rw [a2 k hk, h3 k hk]
      by_cases e : k = j
      · simp [e]
      · simp [e]
def WL (a : List (List Int)) : Nat → List Nat → Int
  | _, [] => 0
  | i, j :: l => entA a i j + WL a (i + 1) l
def FinA (a : List (List Int)) : Nat → List Nat → Prop
  | _, [] => True
  | i, j :: l => entA a i j ≠ -1000000000000000 ∧ FinA a (i + 1) l
theorem WL_snoc (a : List (List Int)) (j : Nat) : ∀ (l : List Nat) (i : Nat), WL a i (l ++ [j]) = WL a i l + entA a (i + l.length) j
  | [], i => by simp [WL]
  | x :: l, i => by
    have := WL_snoc a j l (i + 1)
    simp only [List.cons_append, WL, this, List.length_cons]
    rw [show i + 1 + l.length = i + (l.length + 1) by omega]; omega
theorem FinA_snoc (a : List (List Int)) (j : Nat) : ∀ (l : List Nat) (i : Nat), FinA a i (l ++ [j]) ↔ FinA a i l ∧ entA a (i + l.length) j ≠ -1000000000000000
  | [], i => by simp [FinA]
  | x :: l, i => by
    have := FinA_snoc a j l (i + 1)
    simp only [List.cons_append, FinA, this, List.length_cons]
    rw [show i + 1 + l.length = i + (l.length + 1) by omega]
    constructor
    · rintro ⟨h1, h2, h3⟩; exact ⟨⟨h1, h2⟩, h3⟩
    · rintro ⟨⟨h1, h2⟩, h3⟩; exact ⟨h1, h2, h3⟩
theorem stepP_ge (a : List (List Int)) (tab : List (Int × Int)) (s : Nat) (st : Int × Int) (j : Nat) : st.1 ≤ (stepP a tab s st j).1 := by
  unfold stepP
  cases bitN s j == 1 with
  | false => exact Int.le_refl _
  | true =>
    simp only [cond_true]
    cases (entA a (a.length - popN s) j == (-1000000000000000)) || (((tab[s - 2 ^ j]?).getD (0, 0)).1 == (-1000000000000000)) with
    | true => exact Int.le_refl _
    | false =>
      simp only [cond_false]
      cases h : decide (st.1 < entA a (a.length - popN s) j + ((tab[s - 2 ^ j]?).getD (0, 0)).1) with
      | true => exact Int.le_of_lt (of_decide_eq_true h)
      | false =>
        simp only [cond_false]
        cases entA a (a.length - popN s) j + ((tab[s - 2 ^ j]?).getD (0, 0)).1 == st.1 with
        | true => exact Int.le_refl _
        | false => exact Int.le_refl _
theorem stepP_at {a : List (List Int)} {tab : List (Int × Int)} {s : Nat} {st : Int × Int} {j : Nat} (hb : bitN s j = 1) (h1 : entA a (a.length - popN s) j ≠ -1000000000000000) (h2 : ((tab[s - 2 ^ j]?).getD (0, 0)).1 ≠ -1000000000000000) :
    entA a (a.length - popN s) j + ((tab[s - 2 ^ j]?).getD (0, 0)).1 ≤ (stepP a tab s st j).1 := by
  unfold stepP
  rw [hb]
  rw [show (entA a (a.length - popN s) j == (-1000000000000000)) = false by simpa using h1, show (((tab[s - 2 ^ j]?).getD (0, 0)).1 == (-1000000000000000)) = false by simpa using h2]
  simp only [beq_self_eq_true, cond_true, Bool.or_self, cond_false]
  cases h : decide (st.1 < entA a (a.length - popN s) j + ((tab[s - 2 ^ j]?).getD (0, 0)).1) with
  | true => exact Int.le_refl _
  | false =>
    have h := of_decide_eq_false h
    simp only [cond_false]
    cases entA a (a.length - popN s) j + ((tab[s - 2 ^ j]?).getD (0, 0)).1 == st.1 with
    | true => simp only [cond_true]; omega
    | false => simp only [cond_false]; omega
theorem stepP_from (a : List (List Int)) (tab : List (Int × Int)) (s : Nat) (st : Int × Int) (j : Nat) : (stepP a tab s st j).1 = st.1 ∨ (bitN s j = 1 ∧ entA a (a.length - popN s) j ≠ -1000000000000000 ∧ ((tab[s - 2 ^ j]?).getD (0, 0)).1 ≠ -1000000000000000 ∧ (stepP a tab s st j).1 = entA a (a.length - popN s) j + ((tab[s - 2 ^ j]?).getD (0, 0)).1) := by
  unfold stepP
  cases hb : bitN s j == 1 with
  | false => exact .inl rfl
  | true =>
    simp only [cond_true]
    cases hz : (entA a (a.length - popN s) j == (-1000000000000000)) || (((tab[s - 2 ^ j]?).getD (0, 0)).1 == (-1000000000000000)) with
    | true => exact .inl rfl
    | false =>
      simp only [Bool.or_eq_false_iff, beq_eq_false_iff_ne, ne_eq] at hz
      simp only [cond_false]
      cases h : decide (st.1 < entA a (a.length - popN s) j + ((tab[s - 2 ^ j]?).getD (0, 0)).1) with
      | true => exact .inr ⟨by simpa using hb, hz.1, hz.2, rfl⟩
      | false =>
        simp only [cond_false]
        cases entA a (a.length - popN s) j + ((tab[s - 2 ^ j]?).getD (0, 0)).1 == st.1 with
        | true => exact .inl rfl
        | false => exact .inl rfl
theorem cellP_succ (a : List (List Int)) (tab : List (Int × Int)) (s m : Nat) : cellP a tab s (m + 1) = stepP a tab s (cellP a tab s m) m := by simp [cellP, List.range_succ]
theorem cellP_mono (a : List (List Int)) (tab : List (Int × Int)) (s : Nat) {m m' : Nat} (h : m ≤ m') : (cellP a tab s m).1 ≤ (cellP a tab s m').1 := by
  induction m' with
  | zero => rw [show m = 0 by omega]; exact Int.le_refl _
  | succ m' ih =>
    by_cases e : m = m' + 1
    · rw [e]; exact Int.le_refl _
    · have := ih (by omega)
      have := stepP_ge a tab s (cellP a tab s m') m'
      rw [cellP_succ]; omega
theorem cellP_from (a : List (List Int)) (tab : List (Int × Int)) (s : Nat) : ∀ m, (cellP a tab s m).1 = -1000000000000000 ∨ ∃ j, j < m ∧ bitN s j = 1 ∧ entA a (a.length - popN s) j ≠ -1000000000000000 ∧ ((tab[s - 2 ^ j]?).getD (0, 0)).1 ≠ -1000000000000000 ∧ (cellP a tab s m).1 = entA a (a.length - popN s) j + ((tab[s - 2 ^ j]?).getD (0, 0)).1
  | 0 => .inl rfl
  | m + 1 => by
    rw [cellP_succ]
    rcases stepP_from a tab s (cellP a tab s m) m with h | h
    · rw [h]
      rcases cellP_from a tab s m with g | ⟨j, g1, g2⟩
      · exact .inl g
      · exact .inr ⟨j, by omega, g2⟩
    · exact .inr ⟨m, by omega, h⟩
theorem entS_zero (a : List (List Int)) : entS a 0 = (0, 1) := by
  unfold entS
  rw [tabP_get a (k := 1) (by omega) (Nat.pow_pos (by decide))]
  rfl
theorem entS_cell {a : List (List Int)} {s : Nat} (h : s < 2 ^ a.length) (h0 : s ≠ 0) : entS a s = cellP a (tabP a s) s a.length := by
  unfold entS
  rw [tabP_get a (k := s + 1) (by omega) h, tabP, List.getElem?_append_right (by rw [tabP_len]; omega), tabP_len, Nat.sub_self, show (s == 0) = false by simpa using h0]
  rfl
theorem tab_entS {a : List (List Int)} {r s : Nat} (h : r < s) (hs : s ≤ 2 ^ a.length) : ((tabP a s)[r]?).getD (0, 0) = entS a r := by
  unfold entS
  rw [tabP_get a h hs]
/-- no assignment is heavier than the table says -/
theorem asg_le {a : List (List Int)} (hm : Mat a a.length) : ∀ (l : List Nat), l.Nodup → (∀ j ∈ l, j < a.length) → FinA a (a.length - l.length) l → (entS a (setN l)).1 ≠ -1000000000000000 ∧ WL a (a.length - l.length) l ≤ (entS a (setN l)).1
  | [], _, _, _ => by simp [setN, entS_zero, WL]
  | j :: l, hd, hl, hf => by
    have hrows := hm.rows
    have hlen := nodup_lt _ _ hd hl
    simp only [List.length_cons] at hlen hf ⊢
    have er : a.length - (l.length + 1) + 1 = a.length - l.length := by omega
    simp only [FinA, WL, er] at hf ⊢
    have hl' : ∀ x ∈ l, x < a.length := fun x hx => hl x (List.mem_cons_of_mem _ hx)
    obtain ⟨i1, i2⟩ := asg_le hm l (List.nodup_cons.1 hd).2 hl' hf.2
    obtain ⟨s1, s2, s3⟩ := setN_ok (n := a.length) (by omega) (j :: l) hd hl
    obtain ⟨t1, _, _⟩ := setN_ok (n := a.length) (by omega) l (List.nodup_cons.1 hd).2 hl'
    have hj := hl j List.mem_cons_self
    have hpos : 0 < 2 ^ j := Nat.pow_pos (by decide)
    have esub : setN (j :: l) - 2 ^ j = setN l := Nat.add_sub_cancel ..
    have hlt : setN l < setN (j :: l) := by simp only [setN]; omega
    have hcell := entS_cell s1 (by omega)
    have hst := stepP_at (a := a) (tab := tabP a (setN (j :: l))) (s := setN (j :: l)) (st := cellP a (tabP a (setN (j :: l))) (setN (j :: l)) j) (j := j) (by rw [s3 j (by omega)]; simp) (by rw [s2]; exact hf.1) (by rw [esub, tab_entS hlt (by omega)]; exact i1)
    rw [esub, tab_entS hlt (by omega), s2, ← cellP_succ] at hst
    have hmono := cellP_mono a (tabP a (setN (j :: l))) (setN (j :: l)) (show j + 1 ≤ a.length by omega)
    rw [← hcell] at hmono
    simp only [List.length_cons] at hst
    have hE := entS_ok hm t1
    have hv := val_cases (ent_val hm (i := a.length - (l.length + 1)) (by omega) hj).2.2
    omega
theorem setN_full {n : Nat} (hn : n ≤ 10) {l : List Nat} (hd : l.Nodup) (hl : ∀ j ∈ l, j < n) (h : l.length = n) : setN l = 2 ^ n - 1 := by
  obtain ⟨s1, s2, _⟩ := setN_ok hn l hd hl
  obtain ⟨_, _, hN, _, _⟩ := pow_ok (n := n) hn
  have := (compl_ok hn s1).1
  rcases (pop_ok (s := 2 ^ n - 1 - setN l) (by omega)).2.2 with e | e
  · omega
  · omega
theorem asg_top {a : List (List Int)} (hm : Mat a a.length) {l : List Nat} (hd : l.Nodup) (hl : ∀ j ∈ l, j < a.length) (h : l.length = a.length) (hf : FinA a 0 l) : (topE a).1 ≠ -1000000000000000 ∧ WL a 0 l ≤ (topE a).1 := by
  have := asg_le hm l hd hl (by rw [h, Nat.sub_self]; exact hf)
  rw [setN_full hm.rows.2 hd hl h, h, Nat.sub_self] at this
  exact this
/-- an entry of the table has its reason -/
theorem asg_why {a : List (List Int)} {s : Nat} (h : s < 2 ^ a.length) (h0 : s ≠ 0) (he : (entS a s).1 ≠ -1000000000000000) (hrows : a.length ≤ 10) : ∃ j, j < a.length ∧ bitN s j = 1 ∧ entA a (a.length - popN s) j ≠ -1000000000000000 ∧ (entS a (s - 2 ^ j)).1 ≠ -1000000000000000 ∧ (entS a s).1 = entA a (a.length - popN s) j + (entS a (s - 2 ^ j)).1 := by
  rw [entS_cell h h0] at he ⊢
  obtain ⟨_, _, hN, _, _⟩ := pow_ok (n := a.length) hrows
  obtain ⟨j, j1, j2, j3, j4, j5⟩ := (cellP_from a (tabP a s) s a.length).resolve_left he
  have hq := ((bit_ok (s := s) (j := j) (by omega) (by omega)).one j2).1
  have hpos : 0 < 2 ^ j := Nat.pow_pos (by decide)
  rw [tab_entS (by omega) (by omega)] at j4 j5
  exact ⟨j, j1, j2, j3, j4, j5⟩
/-- an assignment of the greatest weight -/
structure Asg (a : List (List Int)) (l : List Nat) : Prop where
  len : l.length = a.length
  nd : l.Nodup
  lt : ∀ j ∈ l, j < a.length
  fin : FinA a 0 l
  top : WL a 0 l = (topE a).1
def AsgJ (a : List (List Int)) (i : Nat) (t : Int × List Int) : Prop :=
  ∃ (s : Nat) (l : List Nat), s < 2 ^ a.length ∧ t = ((s : Int), toI l) ∧ l.length = i ∧ popN s + i = a.length ∧ l.Nodup ∧ (∀ j ∈ l, j < a.length ∧ bitN s j = 0) ∧ FinA a 0 l ∧ (entS a s).1 ≠ -1000000000000000 ∧ WL a 0 l + (entS a s).1 = (topE a).1
theorem l10_tc {a : List (List Int)} (hm : Mat a a.length) : M.TC (spec_l10Assignment a) (fun w => (w.2 = false ∧ (topE a).1 = -1000000000000000) ∨ (w.2 = true ∧ ∃ l, w.1 = toI l ∧ Asg a l)) := by
  have hrows := hm.rows
  obtain ⟨_, _, hN, hN1, _⟩ := pow_ok (n := a.length) (by omega)
  obtain ⟨r1, _, _, _⟩ := top_reads hm
  have rW : ∀ s : Nat, s < 2 ^ a.length → M.Conv (M.idx ((tabP a (2 ^ a.length)).map Prod.fst) (s : Int)) (entS a s).1 := fun s hs => M.Conv_idx (by rw [List.getElem?_map, entS_get hs]; rfl)
  unfold spec_l10Assignment
  refine M.TC_bindC (spec_l10Best_ok hm) (M.TC_bindC r1 (M.TC_ite (fun ht => M.TC_ret (.inl ⟨rfl, eq_of_beq ht⟩)) (fun ht => ?_)))
  have htb : (entS a (2 ^ a.length - 1)).1 ≠ -1000000000000000 := by simpa [topE, entS] using ht
  have hw0 : w64 ((((tabP a (2 ^ a.length)).map Prod.fst).length : Int) - 1) = ((2 ^ a.length - 1 : Nat) : Int) := by rw [List.length_map, tabP_len, w64_eq _ (by omega)]; omega
  rw [hw0]
  have hp0 := (compl_ok (n := a.length) (s := 2 ^ a.length - 1) (by omega) (by omega)).1
  rw [show 2 ^ a.length - 1 - (2 ^ a.length - 1) = 0 by omega, show popN 0 = 0 by decide] at hp0
  refine M.TC_bind (M.TC_forN (AsgJ a) (by omega) ⟨2 ^ a.length - 1, [], by omega, rfl, rfl, by omega, by simp, by simp, trivial, htb, by simp only [WL, Int.zero_add]; rfl⟩ (fun i t hi hJ => ?_)) (fun t hJ => ?_)
  · obtain ⟨s, l, hs, rfl, hl, hp, hd, hb, hf, he, hw⟩ := hJ
    have hrow : a[i]? = some a[i] := List.getElem?_eq_getElem hi
    have h0 : s ≠ 0 := fun e => by rw [e, show popN 0 = 0 by decide] at hp; omega
    obtain ⟨jj, g1, g2, g3, g4, g5⟩ := asg_why hs h0 he (by omega)
    rw [show a.length - popN s = i by omega] at g3 g5
    refine M.TC_bind (Mid := AsgJ a (i + 1)) (M.TC_for (fun j st => st = ((s : Int), toI l) ∧ ((jj : Nat) : Int) ≥ j) _ (by omega) (by omega) ⟨rfl, by omega⟩ (fun j st h1 h2 hI => ?_) (fun j st hj hI => ?_)) fun u hu => M.TC_ret ⟨_, rfl, hu⟩
    · obtain ⟨rfl, hjj⟩ := hI
      obtain ⟨j, rfl⟩ : ∃ q : Nat, j = q := ⟨j.toNat, by omega⟩
      have hj : j < a.length := by omega
      have hbit := bit_ok (s := s) (j := j) (by omega) (by omega)
      obtain ⟨c2, c3⟩ := hm.get hrow hj
      have ev : (a[i][j]?).getD 0 = entA a i j := by simp only [entA, hrow, Option.getD_some]
      rw [ev] at c2 c3
      have hv := val_cases c3
      refine M.TC_bindC (M.Conv_guard (by rw [hbit.wrapU]; simp)) ?_
      rw [hbit.wrapU]
      simp only [hbit.and, hbit.shl]
      have hpos : 0 < 2 ^ j := Nat.pow_pos (by decide)
      by_cases hgood : bitN s j = 1 ∧ entA a i j ≠ -1000000000000000 ∧ (entS a (s - 2 ^ j)).1 ≠ -1000000000000000 ∧ (entS a s).1 = entA a i j + (entS a (s - 2 ^ j)).1
      · obtain ⟨k1, k2, k3, k4⟩ := hgood
        obtain ⟨q1, q2, q3⟩ := hbit.one k1
        have hw2 : w64 ((s : Int) - ((2 ^ j : Nat) : Int)) = ((s - 2 ^ j : Nat) : Int) := by rw [w64_eq _ (by omega)]; omega
        have hE := entS_ok hm (s := s - 2 ^ j) (by omega)
        have t1 := (timesI_val hv hE).1
        rw [show (entA a i j == (-1000000000000000)) = false by simpa using k2, show ((entS a (s - 2 ^ j)).1 == (-1000000000000000)) = false by simpa using k3] at t1
        simp only [Bool.or_self, cond_false] at t1
        refine M.TC_bindC (x := true) (M.Conv_ite (fun _ => M.Conv_bind (get_row hrow) (M.Conv_bind c2 ((M.Conv_ret _).of (by simpa using k2)))) (fun t => by rw [k1] at t; simp at t)) ?_
        refine M.TC_bindC (x := true) (M.Conv_ite (fun _ => M.Conv_bind (get_row hrow) (M.Conv_bind c2 (M.Conv_bind (M.Conv_guard (by simp)) (M.Conv_bind (x := (entS a (s - 2 ^ j)).1) (by rw [hw2]; exact rW _ (by omega)) (M.Conv_bind (spec_l01Times_ok _ _) (M.Conv_bind (rW _ hs) ((M.Conv_ret _).of (by rw [t1, k4]; simp)))))))) (fun t => by cases t)) ?_
        refine M.TC_ite (fun _ => ?_) (fun t => by cases t)
        have hll : l.length ≤ 10 := by omega
        refine M.TC_bindC (x := toI l ++ [(j : Int)]) (M.Conv_app (by simp [toI]; omega)) (M.TC_bindC (M.Conv_guard (by simp)) (M.TC_ret (.inr ⟨_, rfl, ?_⟩)))
        refine ⟨s - 2 ^ j, l ++ [j], by omega, by rw [hw2]; simp [toI], by simp [hl], by omega, ?_, fun x hx => ?_, ?_, k3, ?_⟩
        · rw [List.nodup_append]
          refine ⟨hd, by simp, fun x hx y hy => ?_⟩
          have hx := (hb x hx).2
          have hy : y = j := by simpa using hy
          rintro rfl
          rw [hy] at hx; omega
        · obtain ⟨b1, b2⟩ := bit_add (s := s - 2 ^ j) (j := j) (by omega) (by omega) (by omega)
          rw [show s - 2 ^ j + 2 ^ j = s by omega] at b2
          rcases List.mem_append.1 hx with hx | hx
          · obtain ⟨y1, y2⟩ := hb x hx
            have := b2 x (by omega)
            refine ⟨y1, ?_⟩
            by_cases e : x = j
            · rw [e]; exact q3
            · rw [if_neg e, y2] at this; omega
          · have hx : x = j := by simpa using hx
            rw [hx]; exact ⟨hj, q3⟩
        · rw [FinA_snoc, Nat.zero_add, hl]; exact ⟨hf, k2⟩
        · rw [WL_snoc, Nat.zero_add, hl]; omega
      · have stay : ((jj : Nat) : Int) ≥ (j : Int) + 1 := by
          by_cases e : jj = j
          · subst e; exact absurd ⟨g2, g3, g4, g5⟩ hgood
          · omega
        refine M.TC_bindC (x := bitN s j == 1 && (entA a i j != -1000000000000000)) (M.Conv_ite (fun t => M.Conv_bind (get_row hrow) (M.Conv_bind c2 ((M.Conv_ret _).of (by
            have t : bitN s j = 1 := by have := eq_of_beq t; omega
            simp [t])))) (fun t => (M.Conv_ret _).of (by
            have t : bitN s j ≠ 1 := fun e => by rw [e] at t; simp at t
            simp [t]))) ?_
        refine M.TC_bindC (x := false) (M.Conv_ite (fun t => ?_) (fun _ => M.Conv_ret _)) (M.TC_ite (fun t => by cases t) (fun _ => M.TC_ret (.inl ⟨_, rfl, rfl, stay⟩)))
        simp only [Bool.and_eq_true, beq_iff_eq, bne_iff_ne, ne_eq] at t
        obtain ⟨k1, k2⟩ := t
        obtain ⟨q1, q2, q3⟩ := hbit.one k1
        have hw2 : w64 ((s : Int) - ((2 ^ j : Nat) : Int)) = ((s - 2 ^ j : Nat) : Int) := by rw [w64_eq _ (by omega)]; omega
        have hE := entS_ok hm (s := s - 2 ^ j) (by omega)
        have t1 := (timesI_val hv hE).1
        rw [show (entA a i j == (-1000000000000000)) = false by simpa using k2] at t1
        refine M.Conv_bind (get_row hrow) (M.Conv_bind c2 (M.Conv_bind (M.Conv_guard (by simp)) (M.Conv_bind (x := (entS a (s - 2 ^ j)).1) (by rw [hw2]; exact rW _ (by omega)) (M.Conv_bind (spec_l01Times_ok _ _) (M.Conv_bind (rW _ hs) ((M.Conv_ret _).of ?_))))))
        rw [t1]
        cases e : ((entS a (s - 2 ^ j)).1 == (-1000000000000000)) with
        | true => simp only [Bool.or_true, cond_true, beq_eq_false_iff_ne, ne_eq]; exact fun e => he e.symm
        | false =>
          simp only [Bool.or_self, cond_false, beq_eq_false_iff_ne, ne_eq]
          exact fun e2 => hgood ⟨k1, k2, by simpa using e, e2.symm⟩
    · have := hI.2
      omega
  · obtain ⟨s, l, hs, rfl, hl, hp, hd, hb, hf, he, hw⟩ := hJ
    have h0 : s = 0 := by
      rcases (pop_ok (s := s) (by omega)).2.2 with e | e
      · exact e
      · omega
    rw [h0, entS_zero] at hw
    exact M.TC_ret (.inr ⟨rfl, l, rfl, hl, hd, fun j hj => (hb j hj).1, hf, by simpa using hw⟩)

def smF (f : Nat → Int) : Nat → Int
  | 0 => 0
  | n + 1 => smF f n + f n
theorem smF_congr {f g : Nat → Int} : ∀ {n : Nat}, (∀ j, j < n → f j = g j) → smF f n = smF g n
  | 0, _ => rfl
  | n + 1, h => by rw [smF, smF, smF_congr fun j hj => h j (by omega), h n (by omega)]
/-- a one-to-one choice of columns -/
structure Inj (n : Nat) (q : Nat → Nat) : Prop where
  lt : ∀ i, i < n → q i < n
  inj : ∀ i j, i < n → j < n → q i = q j → i = j
def pf (l : List Nat) (k : Nat) : Nat := (l[k]?).getD 0
theorem WL_range (a : List (List Int)) (q : Nat → Nat) : ∀ n, WL a 0 ((List.range n).map q) = smF (fun j => entA a j (q j)) n
  | 0 => rfl
  | n + 1 => by rw [List.range_succ, List.map_append, List.map_cons, List.map_nil, WL_snoc, WL_range a q n]; simp [smF]
theorem FinA_range (a : List (List Int)) (q : Nat → Nat) : ∀ n, FinA a 0 ((List.range n).map q) ↔ ∀ i, i < n → entA a i (q i) ≠ -1000000000000000
  | 0 => by simp [FinA]
  | n + 1 => by
    rw [List.range_succ, List.map_append, List.map_cons, List.map_nil, FinA_snoc, FinA_range a q n]
    simp only [List.length_map, List.length_range, Nat.zero_add]
    constructor
    · rintro ⟨h1, h2⟩ i hi
      by_cases e : i = n
      · rw [e]; exact h2
      · exact h1 i (by omega)
    · exact fun h => ⟨fun i hi => h i (by omega), h n (by omega)⟩
theorem pf_range (l : List Nat) : l = (List.range l.length).map (pf l) := by
  apply List.ext_getElem?
  intro i
  by_cases h : i < l.length
  · simp [pf, h]
  · rw [List.getElem?_eq_none (by omega), List.getElem?_eq_none (by simp; omega)]
theorem pf_mem {l : List Nat} {k : Nat} (h : k < l.length) : pf l k ∈ l := by
  unfold pf; rw [List.getElem?_eq_getElem h]; exact List.getElem_mem h
theorem Asg.pinj {a : List (List Int)} {l : List Nat} (h : Asg a l) : Inj a.length (pf l) := by
  refine ⟨fun i hi => h.lt _ (pf_mem (by rw [h.len]; exact hi)), fun i j hi hj e => ?_⟩
  have hp := List.pairwise_iff_getElem.1 h.nd
  have hi' : i < l.length := by rw [h.len]; exact hi
  have hj' : j < l.length := by rw [h.len]; exact hj
  unfold pf at e
  rw [List.getElem?_eq_getElem hi', List.getElem?_eq_getElem hj'] at e
  rcases Nat.lt_trichotomy i j with c | c | c
  · exact absurd e (hp i j hi' hj' c)
  · exact c
  · exact absurd e.symm (hp j i hj' hi' c)
theorem Asg.pfin {a : List (List Int)} {l : List Nat} (h : Asg a l) : ∀ i, i < a.length → entA a i (pf l i) ≠ -1000000000000000 := by
  have := h.fin
  rw [pf_range l, FinA_range, h.len] at this
  exact this
theorem Asg.psum {a : List (List Int)} {l : List Nat} (h : Asg a l) : smF (fun j => entA a j (pf l j)) a.length = (topE a).1 := by
  have := h.top
  rw [pf_range l, WL_range, h.len] at this
  exact this
theorem inj_le {a : List (List Int)} (hm : Mat a a.length) {q : Nat → Nat} (hq : Inj a.length q) (hf : ∀ i, i < a.length → entA a i (q i) ≠ -1000000000000000) : (topE a).1 ≠ -1000000000000000 ∧ smF (fun j => entA a j (q j)) a.length ≤ (topE a).1 := by
  have := asg_top hm (l := (List.range a.length).map q) (by
    refine List.pairwise_map.2 ((List.nodup_range (n := a.length)).imp_of_mem fun {i j} hi hj hne e => hne (hq.inj i j (List.mem_range.1 hi) (List.mem_range.1 hj) e))) (fun j hj => by
    obtain ⟨i, hi, rfl⟩ := List.mem_map.1 hj
    exact hq.lt i (List.mem_range.1 hi)) (by simp) ((FinA_range a q _).2 hf)
  rw [WL_range] at this
  exact this
theorem l10_two {a : List (List Int)} (hm : Mat a a.length) : ∃ w, M.Conv (spec_l10Assignment a) w ∧ M.Conv (impl_bestAssignment a) w ∧ ((w.2 = false ∧ (topE a).1 = -1000000000000000) ∨ (w.2 = true ∧ ∃ l, w.1 = toI l ∧ Asg a l)) := by
  obtain ⟨w, h1, h2, _⟩ := same_l10 hm
  obtain ⟨w', h3, h4⟩ := l10_tc hm
  have := M.Conv.unique h1 h3
  subst this
  exact ⟨w, h1, h2, h4⟩
def smL (f : Nat → Int) : List Nat → Int
  | [] => 0
  | x :: l => f x + smL f l
theorem smL_app (f : Nat → Int) : ∀ (x y : List Nat), smL f (x ++ y) = smL f x + smL f y
  | [], y => by simp [smL]
  | v :: x, y => by simp only [List.cons_append, smL, smL_app f x y]; omega
theorem smL_range (f q : Nat → Int) (p : Nat → Nat) (e : ∀ i, f (p i) = q i) : ∀ n, smL f ((List.range n).map p) = smF q n
  | 0 => rfl
  | n + 1 => by rw [List.range_succ, List.map_append, List.map_cons, List.map_nil, smL_app, smL_range f q p e n]; simp [smL, smF, e]
theorem smL_full (f : Nat → Int) : ∀ (n : Nat) (l : List Nat), l.Nodup → (∀ x ∈ l, x < n) → l.length = n → smL f l = smF f n
  | 0, l, _, _, hl => by rw [List.eq_nil_of_length_eq_zero hl]; rfl
  | n + 1, l, hd, hlt, hl => by
    have hn : n ∈ l := by
      apply Classical.byContradiction
      intro hn
      have := nodup_lt n l hd fun x hx => by
        have := hlt x hx
        have : x ≠ n := fun e => hn (e ▸ hx)
        omega
      omega
    obtain ⟨x, y, rfl⟩ := List.append_of_mem hn
    have hp : (n :: (x ++ y)).Nodup := (List.perm_middle.nodup_iff).1 hd
    obtain ⟨h1, h2⟩ := List.nodup_cons.1 hp
    have ih := smL_full f n (x ++ y) h2 (fun z hz => by
      have := hlt z (by
        rcases List.mem_append.1 hz with h | h
        · exact List.mem_append_left _ h
        · exact List.mem_append_right _ (List.mem_cons_of_mem _ h))
      have : z ≠ n := fun e => h1 (e ▸ hz)
      omega) (by simp at hl ⊢; omega)
    rw [smL_app] at ih
    rw [smL_app, smL, smF, ← ih]; omega
theorem Asg.sum_perm {a : List (List Int)} {l : List Nat} (h : Asg a l) (f : Nat → Int) : smF (fun k => f (pf l k)) a.length = smF f a.length := by
  rw [← smL_full f a.length l h.nd h.lt h.len]
  rw [← smL_range f (fun k => f (pf l k)) (pf l) (fun _ => rfl) a.length]
  conv => rhs; rw [pf_range l, h.len]
theorem smF_add (f g : Nat → Int) : ∀ n, smF (fun k => f k + g k) n = smF f n + smF g n
  | 0 => rfl
  | n + 1 => by simp only [smF, smF_add f g n]; omega
theorem smF_le {f g : Nat → Int} : ∀ {n : Nat}, (∀ k, k < n → f k ≤ g k) → smF f n ≤ smF g n
  | 0, _ => Int.le_refl _
  | n + 1, h => by
    have := smF_le (f := f) (g := g) (n := n) fun k hk => h k (by omega)
    have := h n (by omega)
    simp only [smF]; omega
theorem top_asg {a : List (List Int)} (hm : Mat a a.length) (h : (topE a).1 ≠ -1000000000000000) : ∃ l, Asg a l := by
  obtain ⟨w, _, _, hw⟩ := l10_two hm
  exact (hw.resolve_left fun q => h q.2).2.imp fun l hl => hl.2
theorem drawSquare_ok {code : List Int} (hc : ByC code) {s : TL01source} (hs : Src code s) : M.TC (spec_l02DrawSquare s) (fun r => MatS r.1 ∧ Src code r.2) := by
  unfold spec_l02DrawSquare
  rw [hs.code_]
  refine M.TC_bind (next_ok hc hs 5 (by omega)) fun x hx => ?_
  obtain ⟨k, hk⟩ : ∃ k : Nat, w64 (1 + x.1) = k ∧ 1 ≤ k ∧ k ≤ 10 := by
    have := hx.2
    refine ⟨(w64 (1 + x.1)).toNat, ?_, ?_, ?_⟩ <;> rw [w64_eq _ (by omega)] <;> omega
  rw [hk.1]
  exact M.TC_bind (size_ok hc (hx.1.mk' rfl) k k (by omega) (by omega)) fun y hy => M.TC_ret ⟨hy.1, hy.2.mk' rfl⟩
theorem exists_max {α : Type} {P : α → Prop} (f : α → Int) (B : Int) (hb : ∀ x, P x → f x ≤ B) (h : ∃ x, P x) : ∃ x, P x ∧ ∀ y, P y → f y ≤ f x := by
  suffices H : ∀ (m : Nat) (x : α), P x → (B - f x).toNat ≤ m → ∃ x, P x ∧ ∀ y, P y → f y ≤ f x by
    obtain ⟨x, hx⟩ := h
    exact H _ x hx (Nat.le_refl _)
  intro m
  induction m with
  | zero =>
    intro x hx hm
    have := hb x hx
    exact ⟨x, hx, fun y hy => by have := hb y hy; omega⟩
  | succ m ih =>
    intro x hx hm
    by_cases hm2 : ∃ y, P y ∧ f x < f y
    · obtain ⟨y, hy, hlt⟩ := hm2
      exact ih y hy (by have := hb y hy; omega)
    · refine ⟨x, hx, fun y hy => Int.not_lt.1 fun h => hm2 ⟨y, hy, h⟩⟩
def shF (a : List (List Int)) (L W : Int) (i j : Nat) : Int := bif entA a i j == (-1000000000000000) then -1000000000000000 else L * entA a i j - W
structure Sh (a : List (List Int)) (n : Nat) (L W : Int) : Prop where
  ent : Ent a n 1000000
  hL : 1 ≤ L ∧ L ≤ 10
  hW : -10000000 ≤ W ∧ W ≤ 10000000
theorem Sh.val {a : List (List Int)} {n : Nat} {L W : Int} (h : Sh a n L W) {i j : Nat} (hi : i < n) (hj : j < n) : (entA a i j = -1000000000000000 ∧ entA (matF n n (shF a L W)) i j = -1000000000000000) ∨ (entA a i j ≠ -1000000000000000 ∧ entA (matF n n (shF a L W)) i j = L * entA a i j - W ∧ -20000000 ≤ L * entA a i j - W ∧ L * entA a i j - W ≤ 20000000) := by
  rw [entA_matF hi hj]
  unfold shF
  rcases h.ent i j hi hj with e | e
  · left; rw [e]; exact ⟨rfl, rfl⟩
  · right
    have hL := h.hL
    have hW := h.hW
    have c1 := Int.mul_le_mul_of_nonneg_left e.2 (show 0 ≤ L by omega)
    have c2 := Int.mul_le_mul_of_nonneg_left e.1 (show 0 ≤ L by omega)
    have ne : entA a i j ≠ -1000000000000000 := by omega
    rw [show (entA a i j == (-1000000000000000)) = false by simpa using ne]
    exact ⟨ne, rfl, by omega, by omega⟩
theorem Sh.bd {a : List (List Int)} {n : Nat} {L W : Int} (h : Sh a n L W) : Ent (matF n n (shF a L W)) n 20000000 := by
  intro i j hi hj
  rcases h.val hi hj with e | e
  · exact .inl e.2
  · right; rw [e.2.1]; exact e.2.2
theorem Wlk.sh {a : List (List Int)} {n : Nat} {L W : Int} (hs : Sh a n L W) {j k i : Nat} {w : Int} (h : Wlk a n j k i w) : Wlk (matF n n (shF a L W)) n j k i (L * w - W * (k : Int)) := by
  induction h with
  | nil hj => simpa using Wlk.nil hj
  | step k i i' w hw hi ha ih =>
    rcases hs.val hi hw.lt.2 with e | e
    · exact absurd e.1 ha
    · have := Wlk.step k i i' _ ih hi (by rw [e.2.1]; omega)
      rw [e.2.1] at this
      rw [show L * (w + entA a i' i) - W * ((k + 1 : Nat) : Int) = L * w - W * (k : Int) + (L * entA a i' i - W) by rw [Int.mul_add, Int.natCast_add, Int.mul_add]; simp only [Int.natCast_one, Int.mul_one]; omega]
      exact this
theorem Wlk.unsh {a : List (List Int)} {n : Nat} {L W : Int} (hs : Sh a n L W) {j k i : Nat} {w : Int} (h : Wlk (matF n n (shF a L W)) n j k i w) : ∃ w', w = L * w' - W * (k : Int) ∧ Wlk a n j k i w' := by
  induction h with
  | nil hj => exact ⟨0, by simp, .nil hj⟩
  | step k i i' w hw hi ha ih =>
    obtain ⟨w', rfl, h'⟩ := ih
    rcases hs.val hi hw.lt.2 with e | e
    · exact absurd e.2 ha
    · refine ⟨w' + entA a i' i, ?_, .step k i i' w' h' hi e.1⟩
      rw [e.2.1, Int.mul_add, Int.natCast_add, Int.mul_add]; simp only [Int.natCast_one, Int.mul_one]; omega
theorem sh_nopos {a : List (List Int)} {n : Nat} {L W : Int} (hs : Sh a n L W) (h : ∀ l w, Cl a n l w → w * L ≤ W * (l.length : Int)) : NoPos (matF n n (shF a L W)) n := by
  intro l w hc
  obtain ⟨j, r, rfl, hw⟩ := hc.wlk
  obtain ⟨w', rfl, hw'⟩ := hw.unsh hs
  obtain ⟨r', h1, h2⟩ := Wlk.cl (k := r.length) hw'
  have := h _ _ h1
  rw [Int.mul_comm] at this
  simp only [List.length_cons, h2] at this ⊢
  omega
theorem div2520 {L : Nat} (h1 : 1 ≤ L) (h2 : L ≤ 10) : ((2520 / L : Nat) : Int) * (L : Int) = 2520 ∧ 1 ≤ 2520 / L ∧ 2520 / L ≤ 2520 := by
  have : ∀ q : Fin 11, 1 ≤ q.val → ((2520 / q.val : Nat) : Int) * (q.val : Int) = 2520 ∧ 1 ≤ 2520 / q.val ∧ 2520 / q.val ≤ 2520 := by decide
  exact this ⟨L, by omega⟩ h1
theorem key_le {w w' L L' q q' : Int} (h : w' * q' ≤ w * q) (h1 : q * L = 2520) (h2 : q' * L' = 2520) (hL : 0 < L) (hL' : 0 < L') : w' * L ≤ w * L' := by
  have a1 : w' * q' * (L * L') ≤ w * q * (L * L') := Int.mul_le_mul_of_nonneg_right h (Int.le_of_lt (Int.mul_pos hL hL'))
  have a2 : w' * q' * (L * L') = 2520 * (w' * L) := by rw [show w' * q' * (L * L') = (q' * L') * (w' * L) by grind, h2]
  have a3 : w * q * (L * L') = 2520 * (w * L') := by rw [show w * q * (L * L') = (q * L) * (w * L') by grind, h1]
  omega
theorem Cl.bd {a : List (List Int)} {n : Nat} {B : Int} (hB : Ent a n B) {l : List Nat} {w : Int} (h : Cl a n l w) : -(B * (l.length : Int)) ≤ w ∧ w ≤ B * (l.length : Int) := by
  obtain ⟨j, r, rfl, hw⟩ := h.wlk
  exact hw.bd hB
/-- a cycle of the greatest mean -/
structure MaxC (a : List (List Int)) (n : Nat) (l : List Nat) (W : Int) : Prop where
  wc : WC a n l W
  max : ∀ l' w', Cl a n l' w' → w' * (l.length : Int) ≤ W * (l'.length : Int)
theorem WC.len {a : List (List Int)} {n : Nat} {l : List Nat} {w : Int} (h : WC a n l w) : 1 ≤ l.length ∧ l.length ≤ n := by
  have := nodup_lt n l h.nd h.cl.lt
  obtain ⟨j, r, e, _⟩ := h.cl
  rw [e] at this ⊢
  exact ⟨by simp, this⟩
theorem max_cycle {a : List (List Int)} {n : Nat} (hn : n ≤ 10) (hA : Ent a n 1000000) (hex : ∃ l w, Cl a n l w) : ∃ l W, MaxC a n l W := by
  obtain ⟨l0, w0, h0⟩ := hex
  obtain ⟨l1, w1, h1, _⟩ := h0.written (P := fun _ _ => True) (fun _ _ _ _ _ => .inl trivial) _ rfl trivial
  obtain ⟨⟨l, W⟩, hl, hmax⟩ := exists_max (P := fun x : List Nat × Int => WC a n x.1 x.2) (fun x => x.2 * ((2520 / x.1.length : Nat) : Int)) (10000000 * 2520) (fun x hx => by
    have b := (hx.cl.bd hA).2
    have c := hx.len
    have d := div2520 c.1 (by omega)
    have e1 : x.2 ≤ 10000000 := by omega
    have e2 := Int.mul_le_mul_of_nonneg_right e1 (show (0 : Int) ≤ ((2520 / x.1.length : Nat) : Int) by omega)
    omega) ⟨(l1, w1), h1⟩
  have hlen := hl.len
  refine ⟨l, W, hl, fun l' w' hc => ?_⟩
  apply Int.not_lt.1
  intro hlt
  obtain ⟨l2, w2, h2, hp, _⟩ := hc.written (P := fun k w => W * (k : Int) < w * (l.length : Int)) (fun k1 k2 w1 w2 h => by
    rw [Int.natCast_add, Int.mul_add, Int.add_mul] at h
    omega) _ rfl hlt
  have hlen2 := h2.len
  have d1 := (div2520 hlen.1 (by omega)).1
  have d2 := (div2520 hlen2.1 (by omega)).1
  have := key_le (hmax (l2, w2) h2) d1 d2 (by omega) (by omega)
  simp only at this
  omega
theorem MaxC.sh {a : List (List Int)} {n : Nat} {l : List Nat} {W : Int} (hn : n ≤ 10) (hA : Ent a n 1000000) (h : MaxC a n l W) : Sh a n (l.length : Int) W ∧ NoPos (matF n n (shF a (l.length : Int) W)) n := by
  have hlen := h.wc.len
  have b := h.wc.cl.bd hA
  have hs : Sh a n (l.length : Int) W := ⟨hA, by omega, by omega⟩
  exact ⟨hs, sh_nopos hs fun l' w' hc => h.max l' w' hc⟩
/-- potentials -/
theorem pot_gen {b : List (List Int)} {n : Nat} {B : Int} (hB : Ent b n B) (h0 : 0 ≤ B) (hn : n ≤ 10) (hp : NoPos b n) : ∃ U : Nat → Int, ∀ i, i < n → (∃ j k, Wlk b n j k i (U i)) ∧ ∀ j k w, Wlk b n j k i w → w ≤ U i := by
  have : ∀ i, ∃ u : Int, i < n → (∃ j k, Wlk b n j k i u) ∧ ∀ j k w, Wlk b n j k i w → w ≤ u := by
    intro i
    by_cases hi : i < n
    · obtain ⟨⟨j, k, u⟩, h1, h2⟩ := exists_max (P := fun x : Nat × Nat × Int => Wlk b n x.1 x.2.1 i x.2.2) (fun x => x.2.2) (B * 10) (fun x hx => by
        obtain ⟨k', w', g1, g2, _, g4⟩ := hx.short hp
        have c := (g1.bd hB).2
        have := Int.mul_le_mul_of_nonneg_left (show (k' : Int) ≤ 10 by omega) h0
        omega) ⟨(i, 0, 0), .nil hi⟩
      exact ⟨u, fun _ => ⟨⟨j, k, h1⟩, fun j k w hw => h2 (j, k, w) hw⟩⟩
    · exact ⟨0, fun h => absurd h hi⟩
  obtain ⟨U, hU⟩ := Classical.skolem.1 this
  exact ⟨U, hU⟩
theorem Wlk.split {a : List (List Int)} {n j : Nat} (k : Nat) : ∀ (m : Nat) {w : Int} {i : Nat}, Wlk a n j (k + m) i w → ∃ x w1 w2, Wlk a n j k x w1 ∧ Wlk a n x m i w2 ∧ w = w1 + w2
  | 0, w, i, h => ⟨i, w, 0, h, .nil h.lt.2, by omega⟩
  | m + 1, w, i, h => by
    cases h with
    | step _ i1 _ w1 hw hi ha =>
      obtain ⟨x, u, v, h1, h2, rfl⟩ := Wlk.split k m hw
      exact ⟨x, u, _, h1, .step m i1 _ v h2 hi ha, by omega⟩
structure FkP (a : List (List Int)) (n k : Nat) (F : List Int) : Prop where
  len : F.length = n
  snd : ∀ i, i < n → nd F i = -1000000000000000 ∨ ∃ j, Wlk a n j k i (nd F i)
  cpl : ∀ i j w, Wlk a n j k i w → nd F i ≠ -1000000000000000 ∧ w ≤ nd F i
theorem karp_le {a : List (List Int)} {n : Nat} {L W : Int} (hs : Sh a n L W) (hp : NoPos (matF n n (shF a L W)) n) {F : Nat → List Int} (hF : ∀ k, k ≤ n → FkP a n k (F k)) {i : Nat} (hi : i < n) (hf : nd (F n) i ≠ -1000000000000000) :
    ∃ k, k < n ∧ nd (F k) i ≠ -1000000000000000 ∧ L * (nd (F n) i - nd (F k) i) ≤ W * ((n : Int) - k) := by
  obtain ⟨j, hw⟩ := ((hF n (Nat.le_refl _)).snd i hi).resolve_left hf
  obtain ⟨k, w', g1, g2, _, g4⟩ := (hw.sh hs).short hp
  obtain ⟨w2, rfl, g5⟩ := g1.unsh hs
  obtain ⟨c1, c2⟩ := (hF k (by omega)).cpl i j w2 g5
  refine ⟨k, g2, c1, ?_⟩
  have := Int.mul_le_mul_of_nonneg_left c2 (show 0 ≤ L by have := hs.hL; omega)
  rw [Int.mul_sub, Int.mul_sub]
  omega
theorem karp_ge {a : List (List Int)} {n : Nat} {L W : Int} (hn : n ≤ 10) (hs : Sh a n L W) (hp : NoPos (matF n n (shF a L W)) n) {l : List Nat} (hc : Cl a n l W) (hl : (l.length : Int) = L) {F : Nat → List Int} (hF : ∀ k, k ≤ n → FkP a n k (F k)) :
    ∃ i, i < n ∧ nd (F n) i ≠ -1000000000000000 ∧ ∀ k, k < n → nd (F k) i ≠ -1000000000000000 → W * ((n : Int) - k) ≤ L * (nd (F n) i - nd (F k) i) := by
  obtain ⟨U, hU⟩ := pot_gen hs.bd (by omega) hn hp
  obtain ⟨v, r, e, hw⟩ := hc.wlk
  have hv := hw.lt.1
  have hw := hw.sh hs
  rw [hl, show L * W - W * L = 0 by rw [Int.mul_comm W L]; omega] at hw
  have hl1 : 1 ≤ l.length := by rw [e]; simp
  -- round and round
  have rounds : ∀ t : Nat, ∃ m, t ≤ m ∧ Wlk (matF n n (shF a L W)) n v m v 0 := by
    intro t
    induction t with
    | zero => exact ⟨0, Nat.le_refl _, .nil hv⟩
    | succ t ih =>
      obtain ⟨m, h1, h2⟩ := ih
      exact ⟨m + l.length, by omega, by have := h2.trans hw; simpa using this⟩
  obtain ⟨⟨j, k0, hj⟩, hmax⟩ := hU v hv
  obtain ⟨m, hm, hround⟩ := rounds n
  have hlong := hj.trans hround
  rw [Int.add_zero, show k0 + m = n + (k0 + m - n) by omega] at hlong
  obtain ⟨x, w1, w2, h1, h2, h3⟩ := Wlk.split n _ hlong
  have hx := h1.lt.2
  obtain ⟨⟨j', k', hj'⟩, hmax'⟩ := hU x hx
  have c1 := hmax j' _ _ (hj'.trans h2)
  obtain ⟨w1', e1, g1⟩ := h1.unsh hs
  obtain ⟨c2, c3⟩ := (hF n (Nat.le_refl _)).cpl x j w1' g1
  have c4 := Int.mul_le_mul_of_nonneg_left c3 (show 0 ≤ L by have := hs.hL; omega)
  refine ⟨x, hx, c2, fun k hk hne => ?_⟩
  obtain ⟨j2, hw2⟩ := ((hF k (by omega)).snd x hx).resolve_left hne
  have c5 := hmax' j2 k _ (hw2.sh hs)
  rw [Int.mul_sub, Int.mul_sub]
  omega

theorem Wlk.cyc {a : List (List Int)} {n j k i : Nat} {w : Int} (h : Wlk a n j k i w) (hk : n ≤ k) : ∃ l w, Cl a n l w := by
  obtain ⟨x, h1, h2, h3⟩ := h.chn
  have hnn : ¬ (x ++ [i]).Nodup := fun hd => by
    have := nodup_lt n _ hd h1.lt
    simp at this; omega
  obtain ⟨p, v, y, z, e⟩ := dup_of hnn
  have e' : x ++ [i] = p ++ v :: (y ++ v :: z) := by rw [e]; simp
  rw [e'] at h1
  obtain ⟨w1, w2, rfl, c1, c2⟩ := h1.split
  obtain ⟨w3, w4, rfl, c3, c4⟩ := Chn.split (x := v :: y) c2
  exact ⟨v :: y, w3, v, y, rfl, c3⟩
theorem Cl.long {a : List (List Int)} {n : Nat} {l : List Nat} {w : Int} (h : Cl a n l w) : ∀ t : Nat, ∃ v m u, t ≤ m ∧ Wlk a n v m v u := by
  obtain ⟨v, r, e, hw⟩ := h.wlk
  intro t
  have hl1 : 1 ≤ l.length := by rw [e]; simp
  have : ∀ t : Nat, ∃ m u, t ≤ m ∧ Wlk a n v m v u := by
    intro t
    induction t with
    | zero => exact ⟨0, 0, Nat.le_refl _, .nil hw.lt.1⟩
    | succ t ih =>
      obtain ⟨m, u, h1, h2⟩ := ih
      exact ⟨m + l.length, u + w, by omega, h2.trans hw⟩
  obtain ⟨m, u, h1, h2⟩ := this t
  exact ⟨v, m, u, h1, h2⟩
def Fs (a : List (List Int)) : Nat → List Int
  | 0 => List.replicate a.length 0
  | k + 1 => a.map (dotL (Fs a k))
theorem fs_len (a : List (List Int)) : ∀ k, (Fs a k).length = a.length
  | 0 => by simp [Fs]
  | k + 1 => by simp [Fs]
theorem mat_ent {a : List (List Int)} (hm : Mat a a.length) : Ent a a.length 1000000 := fun i j hi hj => val_cases (ent_val hm hi hj).2.2
theorem FkP.bd {a : List (List Int)} {n k : Nat} (hB : Ent a n 1000000) {F : List Int} (h : FkP a n k F) (hk : k ≤ 10) {i : Nat} (hi : i < n) : nd F i = -1000000000000000 ∨ (-10000000 ≤ nd F i ∧ nd F i ≤ 10000000) := by
  rcases h.snd i hi with e | ⟨j, hw⟩
  · exact .inl e
  · have := hw.bd hB
    exact .inr (by omega)
theorem fs_ok {a : List (List Int)} (hm : Mat a a.length) : ∀ k, k ≤ 10 → FkP a a.length k (Fs a k)
  | 0, _ => by
    have hz : ∀ i, i < a.length → nd (Fs a 0) i = 0 := fun i hi => by simp [Fs, nd, hi]
    refine ⟨fs_len a 0, fun i hi => .inr ⟨i, by rw [hz i hi]; exact .nil hi⟩, fun i j w hw => ?_⟩
    cases hw with
    | nil hj => rw [hz _ hj]; exact ⟨by omega, Int.le_refl _⟩
  | k + 1, hk => by
    have ih := fs_ok hm k (by omega)
    have hB := mat_ent hm
    have hrows := hm.rows
    have key : ∀ i, i < a.length → DotP (entA a i) (nd (Fs a k)) a.length (nd (Fs a (k + 1)) i) := by
      intro i hi
      have hrl := hm.shp.row _ (List.mem_of_getElem? (rowN_get hi))
      have := dotL_ok2 (x := Fs a k) (row := rowN a i) (by rw [fs_len, hrl]) (B := 10000000) (by omega) (fun j hj => by
        rw [nd_row hi]
        have := hB i j hi (by omega)
        unfold Bd; omega) (fun j hj => by
        have := ih.bd hB (by omega) (i := j) (by omega)
        unfold Bd; omega)
      rw [hrl] at this
      have e : nd (Fs a (k + 1)) i = dotL (Fs a k) (rowN a i) := by
        simp only [Fs, nd, List.getElem?_map, rowN_get hi]; rfl
      rw [e]
      exact this.congr (fun j _ => nd_row hi) (fun j _ => rfl)
    refine ⟨fs_len a _, fun i hi => ?_, fun i j w hw => ?_⟩
    · rcases (key i hi).on with e | ⟨j, hj, e1, e2, e3⟩
      · exact .inl e
      · obtain ⟨j0, hw⟩ := (ih.snd j hj).resolve_left e2
        refine .inr ⟨j0, ?_⟩
        rw [e3, Int.add_comm]
        exact .step k j i _ hw hi e1
    · have hi := hw.lt.2
      cases hw with
      | step _ i1 _ w1 hw1 _ ha =>
        obtain ⟨c1, c2⟩ := ih.cpl i1 j w1 hw1
        have c3 := (key i hi).up i1 hw1.lt.2 ha c1
        have c4 := (hB i i1 hi hw1.lt.2).resolve_left ha
        have c5 := (ih.bd hB (by omega) hw1.lt.2).resolve_left c1
        omega
theorem cross_le {X D X' D' q e : Int} (h1 : X' * D ≤ X * D') (h2 : X * e ≤ q * D) (hD : 0 < D) (hD' : 0 < D') (he : 0 < e) : X' * e ≤ q * D' := by
  have a1 : X' * D * e ≤ X * D' * e := Int.mul_le_mul_of_nonneg_right h1 (Int.le_of_lt he)
  have a2 : X * e * D' ≤ q * D * D' := Int.mul_le_mul_of_nonneg_right h2 (Int.le_of_lt hD')
  have e1 : X' * D * e = (X' * e) * D := by grind
  have e2 : X * D' * e = X * e * D' := by grind
  have e3 : q * D * D' = (q * D') * D := by grind
  rw [e1, e2] at a1
  rw [e3] at a2
  exact Int.le_of_mul_le_mul_right (Int.le_trans a1 a2) hD
theorem RatP.bds {x d : Int} {r : TRatio} (h : RatP x d r) (hx : -20000000 ≤ x ∧ x ≤ 20000000) : (-20000000 ≤ r.Num ∧ r.Num ≤ 20000000) ∧ r.Den ≤ d := by
  obtain ⟨g, g0, e1, e2⟩ := h.mul
  obtain ⟨k, hk, rfl⟩ : ∃ k, 0 ≤ k ∧ g = k + 1 := ⟨g - 1, by omega, by omega⟩
  rw [Int.add_mul, Int.one_mul] at e1 e2
  have p := Int.mul_nonneg hk (Int.le_of_lt h.pos)
  by_cases hn : 0 ≤ r.Num
  · have := Int.mul_nonneg hk hn
    omega
  · have := Int.mul_nonneg hk (show 0 ≤ -r.Num by omega)
    rw [Int.mul_neg] at this
    omega
theorem RatP.lt_iff {x d x' d' : Int} {r r' : TRatio} (h : RatP x d r) (h' : RatP x' d' r') : r.Num * r'.Den < r'.Num * r.Den ↔ x * d' < x' * d := by
  obtain ⟨g, g0, e1, e2⟩ := h.mul
  obtain ⟨g', g0', e1', e2'⟩ := h'.mul
  have k1 : x * d' = (g * g') * (r.Num * r'.Den) := by rw [e1, e2']; grind
  have k2 : x' * d = (g * g') * (r'.Num * r.Den) := by rw [e1', e2]; grind
  have hp := Int.mul_pos g0 g0'
  rw [k1, k2]
  exact ⟨fun h => Int.mul_lt_mul_of_pos_left h hp, fun h => Int.lt_of_mul_lt_mul_left h (Int.le_of_lt hp)⟩
theorem prod_bd {x d : Int} (h1 : -20000000 ≤ x ∧ x ≤ 20000000) (h2 : 0 < d ∧ d ≤ 10) : -200000000 ≤ x * d ∧ x * d ≤ 200000000 := by
  have a1 := Int.mul_le_mul_of_nonneg_right h1.1 (show 0 ≤ d by omega)
  have a2 := Int.mul_le_mul_of_nonneg_right h1.2 (show 0 ≤ d by omega)
  omega
theorem cmpR_ok {x d x' d' : Int} {r r' : TRatio} (h : RatP x d r) (h' : RatP x' d' r') (hx : -20000000 ≤ x ∧ x ≤ 20000000) (hx' : -20000000 ≤ x' ∧ x' ≤ 20000000) (hd : d ≤ 10) (hd' : d' ≤ 10) :
    ∃ c, M.Conv (impl_compareRatios r r') c ∧ (c < 0 ↔ x * d' < x' * d) ∧ (0 < c ↔ x' * d < x * d') := by
  have b1 := h.bds hx
  have b2 := h'.bds hx'
  have p1 := h.pos
  have p2 := h'.pos
  have m1 := prod_bd b1.1 (d := r'.Den) (by omega)
  have m2 := prod_bd b2.1 (d := r.Den) (by omega)
  have l1 := h.lt_iff h'
  have l2 := h'.lt_iff h
  refine ⟨_, M.Conv_bind (cmp_ok _ _) (M.Conv_ret _), ?_, ?_⟩
  · rw [w64_eq _ (by omega), w64_eq _ (by omega), ← l1]
    by_cases h1 : r.Num * r'.Den < r'.Num * r.Den
    · simp [h1]
    · by_cases h2 : r'.Num * r.Den < r.Num * r'.Den
      · simp [h1, h2]
      · simp [h1, h2]
  · rw [w64_eq _ (by omega), w64_eq _ (by omega), ← l2]
    by_cases h1 : r.Num * r'.Den < r'.Num * r.Den
    · simp [h1]; omega
    · by_cases h2 : r'.Num * r.Den < r.Num * r'.Den
      · simp [h1, h2]
      · simp [h1, h2]
/-- the least of the first m quotients at node i -/
structure Mn (F : Nat → List Int) (n i m : Nat) (X D : Int) : Prop where
  dd : 0 < D ∧ D ≤ 10
  xx : -20000000 ≤ X ∧ X ≤ 20000000
  on : ∃ k, k < m ∧ nd (F k) i ≠ -1000000000000000 ∧ X = nd (F n) i - nd (F k) i ∧ D = (n : Int) - k
  le : ∀ k, k < m → nd (F k) i ≠ -1000000000000000 → X * ((n : Int) - k) ≤ (nd (F n) i - nd (F k) i) * D
def InJ (F : Nat → List Int) (n i m : Nat) (st : TRatio × Bool) : Prop :=
  (st.2 = false ∧ ∀ k, k < m → nd (F k) i = -1000000000000000) ∨ (st.2 = true ∧ ∃ X D, RatP X D st.1 ∧ Mn F n i m X D)
def OuJ (F : Nat → List Int) (n m : Nat) (st : TRatio × Bool) : Prop :=
  (st.2 = false ∧ ∀ i, i < m → nd (F n) i = -1000000000000000) ∨ (st.2 = true ∧ ∃ X D, RatP X D st.1 ∧ (∃ i, i < m ∧ nd (F n) i ≠ -1000000000000000 ∧ Mn F n i n X D) ∧ ∀ i, i < m → nd (F n) i ≠ -1000000000000000 → ∀ X' D', Mn F n i n X' D' → X' * D ≤ X * D')
theorem in_step {F : Nat → List Int} {n i k : Nat} (hn : n ≤ 10) (hk : k < n) {X D : Int} {st : TRatio × Bool} {r : TRatio} (hX : X = nd (F n) i - nd (F k) i) (hb : -20000000 ≤ X ∧ X ≤ 20000000) (hD : D = (n : Int) - k) (hne : nd (F k) i ≠ -1000000000000000) (hr : RatP X D r) (h : InJ F n i k st) :
    M.TC (M.bind (M.ite (!st.2) (M.ret true) (M.bind (impl_compareRatios r st.1) (fun x16 => M.ret (decide (x16 < 0))))) (fun x15 => M.ite x15 (M.ret (r, true)) (M.ret (st.1, st.2)))) (InJ F n i (k + 1)) := by
  have self : X * ((n : Int) - k) ≤ (nd (F n) i - nd (F k) i) * D := by rw [← hX, ← hD]; exact Int.le_refl _
  rcases h with ⟨h1, h2⟩ | ⟨h1, X', D', h2, h3⟩
  · rw [h1]
    refine M.TC_bindC (x := true) (M.Conv_ite (fun _ => M.Conv_ret _) (fun t => by cases t)) (M.TC_ite (fun _ => M.TC_ret (.inr ⟨rfl, X, D, hr, by omega, hb, ⟨k, by omega, hne, hX, hD⟩, fun q hq hqne => ?_⟩)) (fun t => by cases t))
    by_cases e : q = k
    · rw [e]; exact self
    · exact absurd (h2 q (by omega)) hqne
  · rw [h1]
    obtain ⟨c, c1, c2, _⟩ := cmpR_ok hr h2 hb h3.xx (by omega) h3.dd.2
    have h3d := h3.dd
    refine M.TC_bindC (x := decide (c < 0)) (M.Conv_ite (fun t => by cases t) (fun _ => M.Conv_bind c1 (M.Conv_ret _))) (M.TC_ite (fun t => M.TC_ret (.inr ⟨rfl, X, D, hr, by omega, hb, ⟨k, by omega, hne, hX, hD⟩, fun q hq hqne => ?_⟩)) (fun t => M.TC_ret (.inr ⟨rfl, X', D', h2, h3.dd, h3.xx, ?_, fun q hq hqne => ?_⟩)))
    · have t := c2.1 (of_decide_eq_true t)
      by_cases e : q = k
      · rw [e]; exact self
      · exact cross_le (Int.le_of_lt t) (h3.le q (by omega) hqne) h3d.1 (by omega) (by omega)
    · obtain ⟨k', g1, g2⟩ := h3.on
      exact ⟨k', by omega, g2⟩
    · have t : ¬ X * D' < X' * D := fun h => of_decide_eq_false t (c2.2 h)
      by_cases e : q = k
      · rw [e, ← hX, ← hD]; omega
      · exact h3.le q (by omega) hqne
theorem least_ex {a : List (List Int)} (hm : Mat a a.length) {i : Nat} (hi : i < a.length) (hne : nd (Fs a a.length) i ≠ -1000000000000000) : ∃ X D, Mn (Fs a) a.length i a.length X D := by
  have hrows := hm.rows
  have hB := mat_ent hm
  have bn := ((fs_ok hm a.length (by omega)).bd hB (by omega) hi).resolve_left hne
  have h0 : nd (Fs a 0) i ≠ -1000000000000000 := by simp [Fs, nd, hi]
  have key : ∀ m, 1 ≤ m → m ≤ a.length → ∃ X D, Mn (Fs a) a.length i m X D := by
    intro m
    induction m with
    | zero => intro h; omega
    | succ m ih =>
      intro _ h2
      have self : ∀ k, k < a.length → nd (Fs a k) i ≠ -1000000000000000 → -20000000 ≤ nd (Fs a a.length) i - nd (Fs a k) i ∧ nd (Fs a a.length) i - nd (Fs a k) i ≤ 20000000 := fun k hk hkne => by
        have := ((fs_ok hm k (by omega)).bd hB (by omega) hi).resolve_left hkne
        omega
      by_cases hm0 : m = 0
      · subst hm0
        refine ⟨_, _, by omega, self 0 (by omega) h0, ⟨0, by omega, h0, rfl, rfl⟩, fun k hk hkne => ?_⟩
        rw [show k = 0 by omega]; exact Int.le_refl _
      · obtain ⟨X, D, h⟩ := ih (by omega) (by omega)
        have hd := h.dd
        by_cases hc : nd (Fs a m) i ≠ -1000000000000000 ∧ (nd (Fs a a.length) i - nd (Fs a m) i) * D < X * ((a.length : Int) - m)
        · refine ⟨_, _, by omega, self m (by omega) hc.1, ⟨m, by omega, hc.1, rfl, rfl⟩, fun k hk hkne => ?_⟩
          by_cases e : k = m
          · rw [e]; exact Int.le_refl _
          · exact cross_le (Int.le_of_lt hc.2) (h.le k (by omega) hkne) hd.1 (by omega) (by omega)
        · refine ⟨X, D, hd, h.xx, ?_, fun k hk hkne => ?_⟩
          · obtain ⟨k, g1, g2⟩ := h.on
            exact ⟨k, by omega, g2⟩
          · by_cases e : k = m
            · subst e
              exact Int.not_lt.1 fun h => hc ⟨hkne, h⟩
            · exact h.le k (by omega) hkne
  exact key a.length (by omega) (Nat.le_refl _)
theorem cycleMean_tc {a : List (List Int)} (hm : Mat a a.length) : M.TC (impl_cycleMean a) (fun r => (r.2 = false ∧ ∀ l w, ¬ Cl a a.length l w) ∨ (r.2 = true ∧ ∃ l W, MaxC a a.length l W ∧ RatP W (l.length : Int) r.1)) := by
  have hrows := hm.rows
  have hB := mat_ent hm
  have hF : ∀ k, k ≤ a.length → FkP a a.length k (Fs a k) := fun k hk => fs_ok hm k (by omega)
  unfold impl_cycleMean
  refine M.TC_bindC ((M.Conv_make (by omega) (by omega)).of (r' := Fs a 0) (by rw [Int.toNat_natCast]; rfl)) ?_
  refine M.TC_bindC (x := tab (a.length + 1) (Fs a)) (Conv_forV (fun i => tab (i + 1) (Fs a)) (by omega) fun i hi => ?_) ?_
  · exact M.Conv_bind (idx_tab (by omega)) (M.Conv_bind (impl_timesVector_ok hm (fs_len a i)) (M.Conv_bind (M.Conv_app (by simp [tab_len]; omega)) ((M.Conv_ret _).of (congrArg Sum.inl (tab_snoc (i + 1) (Fs a))))))
  have rd : ∀ k i, k ≤ a.length → i < a.length → M.Conv (M.idx (tab (a.length + 1) (Fs a)) (k : Int)) (Fs a k) ∧ M.Conv (M.idx (Fs a k) (i : Int)) (nd (Fs a k) i) := fun k i hk hi => ⟨idx_tab (by omega), nd_read (by rw [fs_len]; exact hi)⟩
  refine M.TC_bind (M.TC_forN (OuJ (Fs a) a.length) (by omega) (.inl ⟨rfl, fun i hi => by omega⟩) (fun i st hi hJ => ?_)) (fun st hJ => M.TC_ret ?_)
  · refine M.TC_bind (Mid := OuJ (Fs a) a.length (i + 1)) ?_ (fun st hst => M.TC_ret ⟨_, rfl, hst⟩)
    obtain ⟨n1, n2⟩ := rd a.length i (Nat.le_refl _) hi
    refine M.TC_bindC n1 (M.TC_bindC n2 (M.TC_ite (fun t => M.TC_ret ?_) (fun t => ?_)))
    · have t := eq_of_beq t
      rcases hJ with ⟨h1, h2⟩ | ⟨h1, X, D, h2, ⟨i', h3, h4⟩, h5⟩
      · refine .inl ⟨h1, fun q hq => ?_⟩
        by_cases e : q = i
        · rw [e]; exact t
        · exact h2 q (by omega)
      · refine .inr ⟨h1, X, D, h2, ⟨i', by omega, h4⟩, fun q hq hne => ?_⟩
        by_cases e : q = i
        · rw [e] at hne; exact absurd t hne
        · exact h5 q (by omega) hne
    · have hne : nd (Fs a a.length) i ≠ -1000000000000000 := by simpa using t
      have hbn := ((hF a.length (Nat.le_refl _)).bd hB (by omega) hi).resolve_left hne
      refine M.TC_bind (M.TC_forN (InJ (Fs a) a.length i) (by omega) (.inl ⟨rfl, fun k hk => by omega⟩) (fun k st hk hI => ?_)) (fun x7 hx7 => ?_)
      · refine M.TC_bind (Mid := InJ (Fs a) a.length i (k + 1)) ?_ (fun st hst => M.TC_ret ⟨_, rfl, hst⟩)
        obtain ⟨k1, k2⟩ := rd k i (by omega) hi
        refine M.TC_bindC k1 (M.TC_bindC k2 (M.TC_ite (fun t => M.TC_ret ?_) (fun t => ?_)))
        · have t := eq_of_beq t
          rcases hI with ⟨h1, h2⟩ | ⟨h1, X, D, h2, h3⟩
          · refine .inl ⟨h1, fun q hq => ?_⟩
            by_cases e : q = k
            · rw [e]; exact t
            · exact h2 q (by omega)
          · refine .inr ⟨h1, X, D, h2, h3.dd, h3.xx, ?_, fun q hq hqne => ?_⟩
            · obtain ⟨k', g1, g2⟩ := h3.on
              exact ⟨k', by omega, g2⟩
            · by_cases e : q = k
              · rw [e] at hqne; exact absurd t hqne
              · exact h3.le q (by omega) hqne
        · have hkne : nd (Fs a k) i ≠ -1000000000000000 := by simpa using t
          have hbk := ((hF k (by omega)).bd hB (by omega) hi).resolve_left hkne
          have e1 : w64 (nd (Fs a a.length) i - nd (Fs a k) i) = nd (Fs a a.length) i - nd (Fs a k) i := w64_eq _ (by omega)
          have e2 : w64 ((a.length : Int) - (k : Int)) = (a.length : Int) - (k : Int) := w64_eq _ (by omega)
          obtain ⟨r, _, r2, r3⟩ := ratio_ok (x := nd (Fs a a.length) i - nd (Fs a k) i) (d := (a.length : Int) - (k : Int)) (by omega) (by omega)
          refine M.TC_bindC n1 (M.TC_bindC n2 (M.TC_bindC k1 (M.TC_bindC k2 ?_)))
          rw [e1, e2]
          exact M.TC_bindC r2 (in_step (by omega) hk rfl (by omega) rfl hkne r3 hI)
      · -- the least quotient stands
        have h0 : nd (Fs a 0) i ≠ -1000000000000000 := by simp [Fs, nd, hi]
        obtain ⟨X, D, hr, hmn⟩ : ∃ X D, RatP X D x7.1 ∧ Mn (Fs a) a.length i a.length X D := by
          rcases hx7 with ⟨_, h2⟩ | ⟨_, h2⟩
          · exact absurd (h2 0 (by omega)) h0
          · exact h2
        have self : ∀ X' D', Mn (Fs a) a.length i a.length X' D' → X' * D ≤ X * D' := fun X' D' h' => by
          obtain ⟨k, g1, g2, g3, g4⟩ := hmn.on
          have := h'.le k g1 g2
          rw [← g3, ← g4] at this
          exact this
        rcases hJ with ⟨h1, h2⟩ | ⟨h1, X', D', h2, ⟨i', h3, h4, h4'⟩, h5⟩
        · rw [h1]
          refine M.TC_bindC (x := true) (M.Conv_ite (fun _ => M.Conv_ret _) (fun t => by cases t)) (M.TC_ite (fun _ => M.TC_ret (.inr ⟨rfl, X, D, hr, ⟨i, by omega, hne, hmn⟩, fun q hq hqne => ?_⟩)) (fun t => by cases t))
          by_cases e : q = i
          · rw [e]; exact self
          · exact absurd (h2 q (by omega)) hqne
        · rw [h1]
          have d1 := hmn.dd
          have d2 := h4'.dd
          obtain ⟨c, c1, _, c2⟩ := cmpR_ok hr h2 hmn.xx h4'.xx d1.2 d2.2
          refine M.TC_bindC (x := decide (0 < c)) (M.Conv_ite (fun t => by cases t) (fun _ => M.Conv_bind c1 (M.Conv_ret _))) (M.TC_ite (fun t => M.TC_ret (.inr ⟨rfl, X, D, hr, ⟨i, by omega, hne, hmn⟩, fun q hq hqne X2 D2 hq2 => ?_⟩)) (fun t => M.TC_ret (.inr ⟨rfl, X', D', h2, ⟨i', by omega, h4, h4'⟩, fun q hq hqne X2 D2 hq2 => ?_⟩)))
          · have t := c2.1 (of_decide_eq_true t)
            by_cases e : q = i
            · rw [e] at hq2; exact self X2 D2 hq2
            · exact cross_le (h5 q (by omega) hqne X2 D2 hq2) (Int.le_of_lt t) d2.1 hq2.dd.1 d1.1
          · have t : ¬ X' * D < X * D' := fun h => of_decide_eq_false t (c2.2 h)
            by_cases e : q = i
            · rw [e] at hq2
              exact cross_le (self X2 D2 hq2) (by omega) d1.1 hq2.dd.1 d2.1
            · exact h5 q (by omega) hqne X2 D2 hq2
  · rcases hJ with ⟨h1, h2⟩ | ⟨h1, X, D, h2, ⟨i, h3, h4, h4'⟩, h5⟩
    · refine .inl ⟨h1, fun l w hc => ?_⟩
      obtain ⟨v, m, u, g1, g2⟩ := hc.long a.length
      rw [show m = a.length + (m - a.length) by omega] at g2
      obtain ⟨x, w1, w2, g3, _, _⟩ := Wlk.split a.length _ g2
      exact ((hF a.length (Nat.le_refl _)).cpl x v w1 g3).1 (h2 x g3.lt.2)
    · obtain ⟨j, hw⟩ := ((hF a.length (Nat.le_refl _)).snd i h3).resolve_left h4
      obtain ⟨l, W, hmc⟩ := max_cycle (by omega) hB (hw.cyc (Nat.le_refl _))
      obtain ⟨hs, hp⟩ := hmc.sh (by omega) hB
      have hlen := hmc.wc.len
      refine .inr ⟨h1, l, W, hmc, ?_⟩
      have d1 := h4'.dd
      -- from above
      have up : X * (l.length : Int) ≤ W * D := by
        obtain ⟨k, g1, g2, g3⟩ := karp_le hs hp hF h3 h4
        have := h4'.le k g1 g2
        refine cross_le (X := nd (Fs a a.length) i - nd (Fs a k) i) (D := (a.length : Int) - k) this ?_ (by omega) d1.1 (by omega)
        rw [Int.mul_comm]; exact g3
      have dn : W * D ≤ X * (l.length : Int) := by
        obtain ⟨i0, g0, g1, g2⟩ := karp_ge (by omega) hs hp hmc.wc.cl rfl hF
        -- the least quotient at i0
        obtain ⟨X0, D0, hmn⟩ : ∃ X0 D0, Mn (Fs a) a.length i0 a.length X0 D0 := least_ex hm g0 g1
        obtain ⟨k, k1, k2, k3, k4⟩ := hmn.on
        have := g2 k k1 k2
        rw [← k3, ← k4] at this
        have d0 := hmn.dd
        rw [Int.mul_comm (l.length : Int)] at this
        exact cross_le (X := X0) (D := D0) this (h5 i0 g0 g1 X0 D0 hmn) d0.1 (by omega) d1.1
      obtain ⟨r, _, _, r3⟩ := ratio_ok (x := W) (d := (l.length : Int)) (by have := hs.hW; omega) (by omega)
      have := (h2.eq_iff d1.1 (by omega) r3).2 (by omega)
      rw [this]; exact r3

theorem smL_same (f : Nat → Int) : ∀ (l N : List Nat), l.Nodup → N.Nodup → (∀ x, x ∈ l ↔ x ∈ N) → smL f l = smL f N ∧ l.length = N.length
  | [], N, _, _, h => by
    have : N = [] := List.eq_nil_iff_forall_not_mem.2 fun x hx => by simpa using (h x).2 hx
    rw [this]; exact ⟨rfl, rfl⟩
  | v :: l, N, hl, hN, h => by
    obtain ⟨x, y, rfl⟩ := List.append_of_mem ((h v).1 List.mem_cons_self)
    obtain ⟨v1, v2⟩ := List.nodup_cons.1 hl
    have hp : (v :: (x ++ y)).Nodup := (List.perm_middle.nodup_iff).1 hN
    obtain ⟨h1, h2⟩ := List.nodup_cons.1 hp
    have ih := smL_same f l (x ++ y) v2 h2 fun z => by
      have hz := h z
      simp only [List.mem_cons, List.mem_append] at hz ⊢
      constructor
      · intro q
        rcases hz.1 (.inr q) with c | c | c
        · exact .inl c
        · exact absurd (c ▸ q) v1
        · exact .inr c
      · intro q
        have hne : z ≠ v := fun e => h1 (by rw [← e]; exact List.mem_append.2 q)
        rcases q with c | c
        · exact (hz.2 (.inl c)).resolve_left hne
        · exact (hz.2 (.inr (.inr c))).resolve_left hne
    obtain ⟨i1, i2⟩ := ih
    rw [smL_app] at i1
    constructor
    · rw [smL_app, smL, smL, i1]; omega
    · simp only [List.length_cons, List.length_append] at i2 ⊢; omega
/-- the nodes of a set -/
def nodesN (l : List Nat) (m : Nat) : List Nat := (List.range m).filter fun x => decide (x ∈ l)
theorem bitsL_nodes {n : Nat} (hn : n ≤ 10) {l : List Nat} (hd : l.Nodup) (hl : ∀ j ∈ l, j < n) : ∀ m, m ≤ n → bitsL (setN l) m = toI (nodesN l m)
  | 0, _ => rfl
  | m + 1, hm => by
    have ih := bitsL_nodes hn hd hl m (by omega)
    have hb := (setN_ok hn l hd hl).2.2 m (by omega)
    unfold nodesN at ih ⊢
    rw [bitsL, hb, ih, List.range_succ, List.filter_append]
    by_cases e : m ∈ l
    · simp [e]
    · simp [e]
theorem nodes_mem {l : List Nat} {n : Nat} (hl : ∀ j ∈ l, j < n) (x : Nat) : x ∈ nodesN l n ↔ x ∈ l := by
  unfold nodesN
  simp only [List.mem_filter, List.mem_range, decide_eq_true_eq]
  exact ⟨fun h => h.2, fun h => ⟨hl x h, h⟩⟩
theorem nodes_nd (l : List Nat) (n : Nat) : (nodesN l n).Nodup := List.nodup_range.filter _
/-- a chain's predecessors -/
theorem chain_pred {a : List (List Int)} {n : Nat} : ∀ (r : List Nat) {u : Nat} {w : Int}, Chn a n (u :: r) w → (u :: r).Nodup → ∃ π : Nat → Nat, (∀ v ∈ r, π v ∈ u :: r ∧ entA a v (π v) ≠ -1000000000000000 ∧ some (π v) ≠ (u :: r).getLast?) ∧ (∀ v ∈ r, ∀ v' ∈ r, π v = π v' → v = v') ∧ smL (fun v => entA a v (π v)) r = w
  | [], u, w, h, _ => by
    cases h
    exact ⟨id, fun v hv => by simp at hv, fun v hv => by simp at hv, rfl⟩
  | v :: r, u, w, h, hd => by
    cases h with
    | cons _ _ _ w' hu ha h' =>
    obtain ⟨d1, d2⟩ := List.nodup_cons.1 hd
    obtain ⟨d3, d4⟩ := List.nodup_cons.1 d2
    obtain ⟨π, p1, p2, p3⟩ := chain_pred r h' d2
    have hne : ∀ x ∈ r, x ≠ v := fun x hx e => d3 (e ▸ hx)
    refine ⟨fun x => if x = v then u else π x, fun x hx => ?_, fun x hx y hy e => ?_, ?_⟩
    · rcases List.mem_cons.1 hx with rfl | hx
      · simp only [if_true]
        refine ⟨List.mem_cons_self, ha, fun e => d1 ?_⟩
        rw [List.getLast?_cons_cons] at e
        exact List.mem_of_getLast? e.symm
      · simp only [if_neg (hne x hx)]
        obtain ⟨q1, q2, q3⟩ := p1 x hx
        exact ⟨List.mem_cons_of_mem _ q1, q2, by rw [List.getLast?_cons_cons]; exact q3⟩
    · rcases List.mem_cons.1 hx with ex | hx2
      · rcases List.mem_cons.1 hy with ey | hy2
        · rw [ex, ey]
        · simp only [if_pos ex, if_neg (hne y hy2)] at e
          exact absurd (e ▸ (p1 y hy2).1) d1
      · rcases List.mem_cons.1 hy with ey | hy2
        · simp only [if_pos ey, if_neg (hne x hx2)] at e
          exact absurd (e ▸ (p1 x hx2).1) d1
        · simp only [if_neg (hne x hx2), if_neg (hne y hy2)] at e
          exact p2 x hx2 y hy2 e
    · have e1 : ∀ (z : List Nat), (∀ x ∈ z, x ≠ v) → smL (fun x => entA a x (if x = v then u else π x)) z = smL (fun x => entA a x (π x)) z := by
        intro z
        induction z with
        | nil => intro _; rfl
        | cons y z ih =>
          intro hz
          simp only [smL, if_neg (hz y List.mem_cons_self)]
          rw [ih fun x hx => hz x (List.mem_cons_of_mem _ hx)]
      simp only [smL, if_true]
      rw [e1 r hne, p3]
theorem cycle_pred {a : List (List Int)} {n : Nat} {l : List Nat} {W : Int} (h : Cl a n l W) (hd : l.Nodup) : ∃ π : Nat → Nat, (∀ v ∈ l, π v ∈ l ∧ entA a v (π v) ≠ -1000000000000000) ∧ (∀ v ∈ l, ∀ v' ∈ l, π v = π v' → v = v') ∧ smL (fun v => entA a v (π v)) l = W := by
  obtain ⟨u, r, e, hc⟩ := h
  rcases List.eq_nil_or_concat l with e2 | ⟨x, i, e2⟩
  · rw [e2] at e; cases e
  have e2 : l = x ++ [i] := by simpa using e2
  have hlast : l.getLast? = some i := by rw [e2]; simp
  rw [e2] at hc
  obtain ⟨w', rfl, c1, c2⟩ := hc.snoc_inv
  rw [← e2, e] at c1
  rw [e] at hd hlast ⊢
  obtain ⟨π, p1, p2, p3⟩ := chain_pred r c1 hd
  have d1 := (List.nodup_cons.1 hd).1
  have hne : ∀ x ∈ r, x ≠ u := fun x hx e => d1 (e ▸ hx)
  have him : i ∈ u :: r := List.mem_of_getLast? hlast
  refine ⟨fun x => if x = u then i else π x, fun v hv => ?_, fun v hv y hy e => ?_, ?_⟩
  · rcases List.mem_cons.1 hv with rfl | hv
    · simp only [if_true]; exact ⟨him, c2⟩
    · simp only [if_neg (hne v hv)]
      exact ⟨(p1 v hv).1, (p1 v hv).2.1⟩
  · rcases List.mem_cons.1 hv with ev | hv2
    · rcases List.mem_cons.1 hy with ey | hy2
      · rw [ev, ey]
      · simp only [if_pos ev, if_neg (hne y hy2)] at e
        exact absurd (by rw [hlast, e]) (p1 y hy2).2.2
    · rcases List.mem_cons.1 hy with ey | hy2
      · simp only [if_pos ey, if_neg (hne v hv2)] at e
        exact absurd (by rw [hlast, e]) (p1 v hv2).2.2
      · simp only [if_neg (hne v hv2), if_neg (hne y hy2)] at e
        exact p2 v hv2 y hy2 e
  · have e1 : ∀ (z : List Nat), (∀ x ∈ z, x ≠ u) → smL (fun x => entA a x (if x = u then i else π x)) z = smL (fun x => entA a x (π x)) z := by
      intro z
      induction z with
      | nil => intro _; rfl
      | cons y z ih =>
        intro hz
        simp only [smL, if_neg (hz y List.mem_cons_self)]
        rw [ih fun x hx => hz x (List.mem_cons_of_mem _ hx)]
    simp only [smL, if_true]
    rw [e1 r hne, p3]; omega
theorem prin_le {a : List (List Int)} (hm : Mat a a.length) {L W : Int} (hs : Sh a a.length L W) (hp : NoPos (matF a.length a.length (shF a L W)) a.length) {N : List Int} (hN : OkNodes a.length N) (hne : prinV a N ≠ -1000000000000000) : L * prinV a N ≤ W * (N.length : Int) := by
  have hrows := hm.rows
  unfold prinV at hne ⊢
  by_cases h0 : N.length = 0
  · rw [h0]; simp
  · rw [show (N.length == 0) = false by simpa using h0] at hne ⊢
    simp only [cond_false] at hne ⊢
    have hpm := prin_mat hm hN h0
    obtain ⟨lq, hq⟩ := top_asg hpm hne
    have hlen : (prinF a N).length = N.length := matF_len _ _ _
    have hsum := hq.psum
    have hfin := hq.pfin
    have hinj := hq.pinj.lt
    rw [hlen] at hsum hfin hinj
    obtain ⟨U, hU⟩ := pot_gen hs.bd (by omega) (by omega) hp
    have node : ∀ r, r < N.length → (nd N r).toNat < a.length := fun r hr => by have := (hN r hr).1; omega
    have ev : ∀ r, r < N.length → entA (prinF a N) r (pf lq r) = entA a (nd N r).toNat (nd N (pf lq r)).toNat := fun r hr => entA_matF hr (hinj r hr)
    have perm := hq.sum_perm (fun k => U (nd N k).toNat)
    rw [hlen] at perm
    have le1 : smF (fun r => L * entA a (nd N r).toNat (nd N (pf lq r)).toNat - W + U (nd N (pf lq r)).toNat) N.length ≤ smF (fun r => U (nd N r).toNat) N.length := by
      refine smF_le fun r hr => ?_
      have hi := node r hr
      have hj := node _ (hinj r hr)
      have hf := hfin r hr
      rw [ev r hr] at hf
      obtain ⟨⟨j, k, hw⟩, _⟩ := hU _ hj
      rcases hs.val hi hj with e | e
      · exact absurd e.1 hf
      · have := (hU _ hi).2 j (k + 1) _ (.step k _ _ _ hw hi (by rw [e.2.1]; omega))
        rw [e.2.1] at this
        omega
    rw [smF_add, perm] at le1
    have lin : ∀ (x : Nat → Int) m, smF (fun r => L * x r - W) m = L * smF x m - W * (m : Int) := by
      intro x m
      induction m with
      | zero => simp [smF]
      | succ m ih => simp only [smF, ih]; rw [Int.mul_add, Int.natCast_add, Int.mul_add]; simp only [Int.natCast_one, Int.mul_one]; omega
    rw [lin] at le1
    rw [← hsum, smF_congr ev]
    omega
theorem prin_ge {a : List (List Int)} (hm : Mat a a.length) {l : List Nat} {W : Int} (h : Cl a a.length l W) (hd : l.Nodup) : ∃ s, s < 2 ^ a.length ∧ (bitsL s a.length).length = l.length ∧ prinV a (bitsL s a.length) ≠ -1000000000000000 ∧ W ≤ prinV a (bitsL s a.length) := by
  have hrows := hm.rows
  have hlt := h.lt
  obtain ⟨π, p1, p2, p3⟩ := cycle_pred h hd
  obtain ⟨s1, _, _⟩ := setN_ok (n := a.length) (by omega) l hd hlt
  have hbits := bitsL_nodes (n := a.length) (by omega) hd hlt a.length (Nat.le_refl _)
  have hok := bitsL_ok (setN l) a.length
  have hmem := nodes_mem hlt
  have hnd := nodes_nd l a.length
  have hsame := smL_same (fun v => entA a v (π v)) l (nodesN l a.length) hd hnd fun x => (hmem x).symm
  refine ⟨setN l, s1, ?_, ?_⟩
  · rw [hbits, List.length_map, hsame.2]
  rw [hbits] at hok ⊢
  generalize nodesN l a.length = N at hbits hmem hnd hsame hok
  have hl1 : l.length ≠ 0 := by
    obtain ⟨u, r, e, _⟩ := h
    rw [e]; simp
  have h0 : (toI N).length ≠ 0 := by rw [List.length_map, ← hsame.2]; exact hl1
  have hpm := prin_mat hm hok h0
  have hlen : (prinF a (toI N)).length = N.length := by rw [prinF, matF_len, List.length_map]
  unfold prinV
  rw [show ((toI N).length == 0) = false by simpa using h0]
  simp only [cond_false]
  have hndN : ∀ r, r < N.length → (nd (toI N) r).toNat = pf N r := fun r hr => by simp [nd, pf, hr]
  have : ∀ r, ∃ t, r < N.length → t < N.length ∧ pf N t = π (pf N r) := by
    intro r
    by_cases hr : r < N.length
    · have hx := (p1 _ ((hmem _).1 (pf_mem hr))).1
      obtain ⟨t, ht, e⟩ := List.getElem_of_mem ((hmem _).2 hx)
      exact ⟨t, fun _ => ⟨ht, by simp only [pf, List.getElem?_eq_getElem ht, Option.getD_some]; exact e⟩⟩
    · exact ⟨0, fun h => absurd h hr⟩
  obtain ⟨q, hq⟩ := Classical.skolem.1 this
  have hpfi : ∀ i j, i < N.length → j < N.length → pf N i = pf N j → i = j := by
    intro i j hi hj e
    have hp := List.pairwise_iff_getElem.1 hnd
    unfold pf at e
    rw [List.getElem?_eq_getElem hi, List.getElem?_eq_getElem hj] at e
    rcases Nat.lt_trichotomy i j with c | c | c
    · exact absurd e (hp i j hi hj c)
    · exact c
    · exact absurd e.symm (hp j i hj hi c)
  have hinj : Inj N.length q := ⟨fun i hi => (hq i hi).1, fun i j hi hj e => by
    have e1 := (hq i hi).2
    have e2 := (hq j hj).2
    rw [e] at e1
    exact hpfi i j hi hj (p2 _ ((hmem _).1 (pf_mem hi)) _ ((hmem _).1 (pf_mem hj)) (e1.symm.trans e2))⟩
  have ev : ∀ r, r < N.length → entA (prinF a (toI N)) r (q r) = entA a (pf N r) (π (pf N r)) := fun r hr => by
    have ht := (hq r hr).1
    rw [prinF, entA_matF (by rw [List.length_map]; exact hr) (by rw [List.length_map]; exact ht), hndN r hr, hndN _ ht, (hq r hr).2]
  have := inj_le hpm (q := q) (by rw [hlen]; exact hinj) (by rw [hlen]; exact fun i hi => by rw [ev i hi]; exact (p1 _ ((hmem _).1 (pf_mem hi))).2)
  rw [hlen, smF_congr ev] at this
  refine ⟨this.1, ?_⟩
  have e : smF (fun r => entA a (pf N r) (π (pf N r))) N.length = W := by
    rw [← p3, hsame.1]
    rw [← smL_range (fun v => entA a v (π v)) (fun r => entA a (pf N r) (π (pf N r))) (pf N) (fun _ => rfl) N.length, ← pf_range N]
  rw [← e]; exact this.2
theorem poly_from (a : List (List Int)) : ∀ k p, p ≤ a.length → nd (polyQ a k) p = -1000000000000000 ∨ ∃ s, s < k ∧ (bitsL s a.length).length + p = a.length ∧ nd (polyQ a k) p = prinV a (bitsL s a.length)
  | 0, p, hp => by
    left
    unfold nd polyQ; rw [tab_get (by omega)]; rfl
  | k + 1, p, hp => by
    have hl := bitsL_len k a.length
    have ih := poly_from a k p hp
    rw [polyQ, stepQ]
    unfold nd at ih ⊢
    rw [List.getElem?_set]
    by_cases e : a.length - (bitsL k a.length).length = p
    · rw [if_pos e, if_pos (by rw [polyQ_len]; omega)]
      simp only [Option.getD_some]
      rw [mx_eq, e]
      by_cases h : prinV a (bitsL k a.length) ≤ ((polyQ a k)[p]?).getD 0
      · rw [show max (((polyQ a k)[p]?).getD 0) (prinV a (bitsL k a.length)) = ((polyQ a k)[p]?).getD 0 by omega]
        rcases ih with h | ⟨s, h1, h2⟩
        · exact .inl h
        · exact .inr ⟨s, by omega, h2⟩
      · exact .inr ⟨k, by omega, by omega, by omega⟩
    · rw [if_neg e]
      rcases ih with h | ⟨s, h1, h2⟩
      · exact .inl h
      · exact .inr ⟨s, by omega, h2⟩
theorem poly_ge (a : List (List Int)) : ∀ k s, s < k → prinV a (bitsL s a.length) ≤ nd (polyQ a k) (a.length - (bitsL s a.length).length)
  | 0, s, h => by omega
  | k + 1, s, h => by
    have hl := bitsL_len k a.length
    rw [polyQ, stepQ]
    unfold nd
    rw [List.getElem?_set]
    by_cases e : a.length - (bitsL k a.length).length = a.length - (bitsL s a.length).length
    · rw [if_pos e, if_pos (by rw [polyQ_len]; omega)]
      simp only [Option.getD_some]
      rw [mx_eq]
      by_cases hs : s = k
      · rw [hs]; omega
      · have := poly_ge a k s (by omega)
        unfold nd at this
        rw [e]; omega
    · rw [if_neg e]
      by_cases hs : s = k
      · rw [hs] at e; exact absurd rfl e
      · exact poly_ge a k s (by omega)

theorem max_face {a : List (List Int)} (hm : Mat a a.length) {l : List Nat} {W : Int} (hmc : MaxC a a.length l W) {ts : List Int} (h : PolH (polyQ a (2 ^ a.length)) ts) : ∃ (q : Nat) (i : Int), ts[q]? = some i ∧ ts[q + 1]? = some (a.length : Int) ∧ i < (a.length : Int) ∧ yC (polyQ a (2 ^ a.length)) (a.length : Int) = 0 ∧ (l.length : Int) * yC (polyQ a (2 ^ a.length)) i = W * ((a.length : Int) - i) := by
  have hrows := hm.rows
  have hB := mat_ent hm
  obtain ⟨hs, hp'⟩ := hmc.sh (by omega) hB
  have hlen := hmc.wc.len
  have hcl := polyQ_len a (2 ^ a.length)
  have hfrom := poly_from a (2 ^ a.length)
  have hge := poly_ge a (2 ^ a.length)
  obtain ⟨_, _, hN, hN1, _⟩ := pow_ok (n := a.length) (by omega)
  obtain ⟨s0, a1, a2, a3, a4⟩ := prin_ge hm hmc.wc.cl hmc.wc.nd
  have hs0 := hge s0 a1
  have hbit0 := hge 0 hN1
  rw [bitsL_zero, List.length_nil, Nat.sub_zero, show prinV a [] = 0 from rfl] at hbit0
  generalize polyQ a (2 ^ a.length) = c at *
  -- every term lies below the line
  have hy : ∀ p : Int, yC c p = nd c p.toNat := fun p => rfl
  have fin : ∀ p, finK c c.length p → 0 ≤ p ∧ p ≤ a.length ∧ yC c p ≠ -1000000000000000 := fun p hp => by
    obtain ⟨⟨h0, x, hx, hne⟩, hlt⟩ := hp
    refine ⟨h0, by omega, ?_⟩
    unfold yC; rw [hx]; exact hne
  have tofin : ∀ p : Nat, p ≤ a.length → nd c p ≠ -1000000000000000 → finK c c.length (p : Int) := fun p hp hne => by
    refine ⟨⟨by omega, c[p]'(by omega), by rw [Int.toNat_natCast]; exact List.getElem?_eq_getElem _, ?_⟩, by omega⟩
    unfold nd at hne
    rw [List.getElem?_eq_getElem (show p < c.length by omega)] at hne
    exact hne
  have below : ∀ p : Nat, p ≤ a.length → nd c p ≠ -1000000000000000 → (l.length : Int) * nd c p ≤ W * ((a.length : Int) - p) := fun p hp hne => by
    obtain ⟨s, b1, b2, b3⟩ := (hfrom p hp).resolve_left hne
    rw [b3] at hne ⊢
    have := prin_le hm hs hp' (bitsL_ok s a.length) hne
    rw [show ((a.length : Int) - p) = ((bitsL s a.length).length : Int) by omega]
    exact this
  have hn0 : nd c a.length = 0 := by
    have h1 := below a.length (Nat.le_refl _) (by omega)
    rw [Int.sub_self, Int.mul_zero] at h1
    apply Int.le_antisymm _ hbit0
    apply Int.not_lt.1
    intro hlt
    have := Int.mul_pos (show (0 : Int) < (l.length : Int) by omega) hlt
    omega
  rw [a2] at hs0
  have hbd := (hs.hW)
  have c0 : nd c (a.length - l.length) ≠ -1000000000000000 := by omega
  have f0 := tofin (a.length - l.length) (by omega) c0
  have fn := tofin a.length (Nat.le_refl _) (by omega)
  have low0 : W * (l.length : Int) ≤ (l.length : Int) * nd c (a.length - l.length) := by
    have := Int.mul_le_mul_of_nonneg_left (show W ≤ nd c (a.length - l.length) by omega) (show (0 : Int) ≤ (l.length : Int) by omega)
    rw [Int.mul_comm W]; exact this
  obtain ⟨Lf, R, hf⟩ := face_of h W (l.length : Int)
  have en : (l.length : Int) * yC c (a.length : Int) + W * (a.length : Int) = W * (a.length : Int) := by
    rw [hy, Int.toNat_natCast, hn0]; simp
  have hLf := fin Lf hf.fl
  have bLf : (l.length : Int) * yC c Lf ≤ W * ((a.length : Int) - Lf) := by
    obtain ⟨p, rfl⟩ : ∃ p : Nat, Lf = p := ⟨Lf.toNat, by omega⟩
    exact below p (by omega) (by have := hLf.2.2; rw [hy, Int.toNat_natCast] at this; exact this)
  rw [Int.mul_sub] at bLf
  have tn := hf.top _ fn
  rw [en] at tn
  have eLf : (l.length : Int) * yC c Lf + W * Lf = W * (a.length : Int) := by omega
  have hR := hf.all _ fn (by rw [en, eLf])
  have hRf := fin R hf.fr
  have eR : R = (a.length : Int) := by omega
  have h0 := hf.all _ f0 (by
    rw [eLf, hy, Int.toNat_natCast]
    have t0 := hf.top _ f0
    rw [eLf, hy, Int.toNat_natCast] at t0
    have : W * ((a.length - l.length : Nat) : Int) = W * (a.length : Int) - W * (l.length : Int) := by rw [← Int.mul_sub]; congr 1; omega
    omega)
  have hlt : Lf < R := by omega
  obtain ⟨q, q1, q2⟩ := h.of_face (by omega) hf hlt
  rw [eR] at q2
  refine ⟨q, Lf, q1, q2, by omega, by rw [hy, Int.toNat_natCast]; exact hn0, ?_⟩
  rw [Int.mul_sub]; omega
theorem last_corner {c ts : List Int} {n : Nat} (h : PolH c ts) (hc : c.length = n + 1) {q : Nat} (g : ts[q + 1]? = some (n : Int)) : q + 2 = ts.length := by
  have h1 := (List.getElem?_eq_some_iff.1 g).1
  apply Classical.byContradiction
  intro hne
  have h2 : q + 2 < ts.length := by omega
  have h3 := h.ok.lt g (List.getElem?_eq_getElem h2) (by omega)
  have h4 := (h.fin _ (List.getElem_mem h2)).2
  omega
theorem no_corner {a : List (List Int)} (hm : Mat a a.length) (hno : ∀ l w, ¬ Cl a a.length l w) {ts : List Int} (h : PolH (polyQ a (2 ^ a.length)) ts) : ts.length = 1 := by
  have hrows := hm.rows
  have hB := mat_ent hm
  have hs : Sh a a.length 1 (-10000000) := ⟨hB, by omega, by omega⟩
  have hp : NoPos (matF a.length a.length (shF a 1 (-10000000))) a.length := sh_nopos hs fun l w hc => absurd hc (hno l w)
  have hcl := polyQ_len a (2 ^ a.length)
  have hfrom := poly_from a (2 ^ a.length)
  have only : ∀ t ∈ ts, t = (a.length : Int) := fun t ht => by
    obtain ⟨⟨h0, x, hx, hne⟩, hlt⟩ := h.fin t ht
    have hn : nd (polyQ a (2 ^ a.length)) t.toNat ≠ -1000000000000000 := by unfold nd; rw [hx]; exact hne
    obtain ⟨s, b1, b2, b3⟩ := (hfrom t.toNat (by omega)).resolve_left hn
    rw [b3] at hn
    have hok := bitsL_ok s a.length
    have hle := prin_le hm hs hp hok hn
    by_cases hz : (bitsL s a.length).length = 0
    · omega
    · exfalso
      have hpm := prin_mat hm hok hz
      have hlen : (prinF a (bitsL s a.length)).length = (bitsL s a.length).length := matF_len _ _ _
      have hb := (top_reads hpm).2.2.2
      rw [hlen] at hb
      unfold prinV at hle hn
      rw [show ((bitsL s a.length).length == 0) = false by simpa using hz] at hle hn
      simp only [cond_false] at hle hn
      rcases hb with e | e
      · rw [e] at hn; exact hn rfl
      · omega
  have hne := List.length_pos_iff.2 h.ok.ne
  apply Classical.byContradiction
  intro h1
  have h2 : 1 < ts.length := by omega
  have := h.ok.lt (List.getElem?_eq_getElem (show 0 < ts.length by omega)) (List.getElem?_eq_getElem h2) (by omega)
  have e1 := only _ (List.getElem_mem (show 0 < ts.length by omega))
  have e2 := only _ (List.getElem_mem h2)
  omega
theorem CycleMean_tc {a : List (List Int)} (sa : smII a) (hs : sqB a = true) : M.TC (impl_CycleMean a) (fun w => w.2 = 3 ∨ (w.2 = 4 ∧ ∀ l w, ¬ Cl a a.length l w) ∨ (w.2 = 0 ∧ ∃ l W, MaxC a a.length l W ∧ RatP W (l.length : Int) w.1)) := by
  have hm := sq_mat hs
  unfold impl_CycleMean
  refine M.TC_bindC (impl_isSquare_ok sa) (M.TC_ite (fun t => by rw [hs] at t; cases t) (fun _ => M.TC_bind (cycleMean_tc hm) fun x hx => ?_))
  refine M.TC_ite (fun t => M.TC_ret (.inr (.inl ⟨rfl, ?_⟩))) (fun t => ?_)
  · rcases hx with ⟨_, h⟩ | ⟨h, _⟩
    · exact h
    · rw [h] at t; cases t
  · obtain ⟨b, _, b2, _⟩ := isRatio_same x.1
    have hx := (hx.resolve_left fun h => by rw [h.1] at t; cases t).2
    refine M.TC_bind (Mid := fun w => w.2 = 3 ∨ (w.2 = 0 ∧ w.1 = x.1)) (M.TC_bindC b2 (M.TC_ite (fun _ => M.TC_ret (.inl rfl)) (fun _ => M.TC_ret (.inr ⟨rfl, rfl⟩)))) fun w hw => M.TC_ret ?_
    rcases hw with h | ⟨h1, h2⟩
    · exact .inl h
    · exact .inr (.inr ⟨h1, by rw [h2]; exact hx⟩)
theorem DrawChar_ok {code : List Int} (hc : ByC code) : M.TC (spec_DrawCharPolynomial code) MatS :=
  M.TC_bind (from_ok hc) fun x hx => M.TC_bind (drawSquare_ok hc hx) fun y hy => M.TC_ret hy.1
theorem DrawPrincipal_ok {code : List Int} (hc : ByC code) : M.TC (spec_DrawPrincipalPermanent code) (fun r => MatS r.1 ∧ VecS r.2) := by
  unfold spec_DrawPrincipalPermanent
  refine M.TC_bind (from_ok hc) fun x hx => M.TC_bind (drawSquare_ok hc hx) fun y hy => ?_
  have hrows := hy.1.rows
  rw [hx.code_]
  refine M.TC_bind (M.TC_forN (fun i (s : Int × Int × List Int) => Src code ⟨code, s.1, s.2.1⟩ ∧ VecS s.2.2 ∧ s.2.2.length ≤ i) (by omega) ⟨hy.2.mk' rfl, ⟨by simp, by simp⟩, by simp⟩ (fun i s hi hI => ?_)) (fun s hs => ?_)
  · obtain ⟨h1, h2, h3⟩ := hI
    refine M.TC_bind (next_ok hc h1 2 (by omega)) fun z hz => ?_
    refine M.TC_bind (Mid := fun v => VecS v ∧ v.length ≤ i + 1) (M.TC_ite (fun _ => M.TC_bindC (M.Conv_app (by simp; omega)) (M.TC_ret ⟨h2.snoc (by omega) (by unfold inI64; omega), by simp; omega⟩)) (fun _ => M.TC_ret ⟨h2, by omega⟩)) fun v hv => M.TC_ret ⟨_, rfl, hz.1.mk' rfl, hv.1, hv.2⟩
  · obtain ⟨h1, h2, h3⟩ := hs
    refine M.TC_bind (next_ok hc h1 16 (by omega)) fun z hz => M.TC_bind (Mid := VecS) (M.TC_ite (fun _ => ?_) (fun _ => M.TC_ret h2)) fun v hv => M.TC_ret ⟨hy.1, hv⟩
    refine M.TC_bind (pick_ok hc (hz.1.mk' rfl) _ (by simp) (by simp) inI64 (fun v hv => by
      simp only [List.mem_cons, List.not_mem_nil, or_false] at hv
      unfold inI64
      omega)) fun p hp => M.TC_bindC (M.Conv_app (by simp; omega)) (M.TC_ret (h2.snoc (by omega) hp.2))
theorem FnCharacteristic_ok (code : List Int) (h : fitL inU8 code) : M.Conv (laws_FnCharacteristic code) true := by
  apply M.TC.conv
  unfold laws_FnCharacteristic
  refine M.TC_bindC (big_ok code) (M.TC_ite (fun _ => M.TC_ret rfl) (fun hb => ?_))
  have hbc := ByC.of h hb
  refine M.TC_bind (DrawChar_ok hbc) fun a ha => ?_
  obtain ⟨w, w1, w2, hsm, hw⟩ := char_two a ha.sm
  refine M.TC_bindC w2 (M.TC_bindC w1 (M.TC_bind (DrawPrincipal_ok hbc) fun d hd => ?_))
  obtain ⟨v, v1, v2, _⟩ := same_PrincipalPermanent d.1 hd.1.fit d.2 hd.2.fit hd.1.sm hd.2.sm
  have hsl : w.1.length ≤ 1099511627776 := hsm
  refine M.TC_bindC v2 (M.TC_bindC v1 (M.TC_bindC (cmp_list0 hsl) (M.TC_ite (fun t => by simp at t) (fun _ => M.TC_ite (fun _ => M.TC_ret rfl) (fun t => ?_)))))
  obtain ⟨hs, e, hpb⟩ := hw (by simpa using t)
  have hm := sq_mat hs
  have hrows := hm.rows
  have hcl := polyQ_len a (2 ^ a.length)
  have hpol := polH_of hpb
  refine M.TC_bind (corners_tc hpb) fun cs hcs => M.TC_bind (CycleMean_tc ha.sm hs) fun mu hmu => ?_
  rw [e] at hcs hpol
  refine M.TC_ite (fun t => M.TC_ret ?_) (fun t => ?_)
  · simp only [Bool.or_eq_true, bne_iff_ne, ne_eq, beq_iff_eq] at t ⊢
    rcases t with t | t
    · rcases hcs with q | q
      · exact .inl q
      · exact absurd q.1 t
    · exact .inr t
  · simp only [Bool.or_eq_false_iff, bne_eq_false_iff_eq, beq_eq_false_iff_ne, ne_eq] at t
    obtain ⟨t1, t2⟩ := t
    have hv := (hcs.resolve_left fun q => by omega).2
    rcases hmu with q | ⟨q, hno⟩ | ⟨q, l, W, hmc, hr⟩
    · exact absurd q t2
    · refine M.TC_ite (fun _ => M.TC_ret ?_) (fun t => by rw [q] at t; simp at t)
      have h1 := no_corner hm hno hpol
      have h2 := hv.len
      have h3 : cs.1.length = 0 := by omega
      rw [h3]; rfl
    · refine M.TC_ite (fun t => by rw [q] at t; simp at t) (fun _ => ?_)
      obtain ⟨k, i, g1, g2, g3, g4, g5⟩ := max_face hm hmc hpol
      obtain ⟨x, x1, _, x2⟩ := hv.at_ k i _ g1 g2
      have hlast := last_corner hpol hcl g2
      have hlen := hv.len
      have hll := hmc.wc.len
      have heq := (x2.eq_iff (by omega) (by omega) hr).2 (by rw [g4, Int.sub_zero, Int.mul_comm]; exact g5)
      have hk : cs.1.length = k + 1 := by omega
      refine M.TC_bindC (x := true) (M.Conv_ite (fun _ => M.Conv_bind (x := x) ?_ ((M.Conv_ret _).of ?_)) (fun t => ?_)) (M.TC_ret rfl)
      · have hk10 := (List.getElem?_eq_some_iff.1 x1).1
        have : k ≤ 12 := by
          have := ts_len hpol.ok (by omega)
          omega
        rw [w64_eq _ (by omega), show (cs.1.length : Int) - 1 = (k : Int) by omega]
        exact M.Conv_idx x1
      · rw [heq]; simp
      · rw [q, hk] at t; simp at t

end Go.Proofs.Ytipdgiljgbjjkaa
