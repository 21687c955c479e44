/-
  Plain proofs: the plain program of the law ends with true.
  Conditions: None beyond the given statement.
-/
import Derived.Test.YtelopfgolahlpaaGreatB
namespace Go.Proofs.YtelopfgolahlpaaGreat
open Go
theorem critical_both {a : List (List Int)} (sa : smII a) (hs : sqB a = true) : ∃ w, M.Conv (impl_criticalOf a) w ∧ ((w.2 = 4 ∧ (∀ l w, ¬ Cl a a.length l w) ∧ M.Conv (spec_l06Code a) 4) ∨ (w.2 = 0 ∧ M.Conv (spec_l06Code a) 0 ∧ M.Conv (spec_l06Matrix a) w.1 ∧ ∃ l W r S, CritP a l W r S ∧ w.1 = matF a.length a.length (critF (matF a.length a.length (shF a r.Den r.Num)) S a) ∧ M.Conv (spec_l06Arcs a) ((arcsV (critB (matF a.length a.length (shF a r.Den r.Num)) S) a.length a.length).map encA))) := by
  have hm := sq_mat hs
  have hrows := hm.rows
  obtain ⟨x, x1, x2⟩ := cycleMean_tc hm
  obtain ⟨q, q1, q2⟩ := best_tc hm
  have code : ∀ b : Bool, q.2 = b → M.Conv (spec_l06Code a) (bif b then 0 else 4) := fun b hb => by
    unfold spec_l06Code
    refine M.Conv_bind (spec_l02Square_ok sa) (M.Conv_ite (fun t => by rw [hs] at t; cases t) (fun _ => M.Conv_bind q1 (M.Conv_ite (fun t => (M.Conv_ret _).of ?_) (fun t => (M.Conv_ret _).of ?_))))
    · cases b with
      | true => rw [hb] at t; cases t
      | false => rfl
    · cases b with
      | true => rfl
      | false => rw [hb] at t; cases t
  rcases x2 with ⟨h1, hno⟩ | ⟨h1, l', W', hmc', hr'⟩
  · refine ⟨([], 4), M.Conv_bind (impl_isSquare_ok sa) (M.Conv_ite (fun t => by rw [hs] at t; cases t) (fun _ => M.Conv_bind x1 (M.Conv_ite (fun _ => M.Conv_ret _) (fun t => by rw [h1] at t; cases t)))), .inl ⟨rfl, hno, ?_⟩⟩
    have : q.2 = false := by
      rcases q2 with h | ⟨_, l, W, _, h⟩
      · exact h.1
      · exact absurd h.wc.cl (hno l W)
    exact code false this
  · have hq : q.2 = true := by
      rcases q2 with ⟨_, h⟩ | h
      · exact absurd hmc'.wc.cl (h l' W')
      · exact h.1
    obtain ⟨l, W, r, S, h, harc⟩ := arcs_tc hm ⟨l', W', hmc'.wc.cl⟩
    have er : x.1 = r := hmc'.same h.mc hr' h.rp
    refine ⟨(matF a.length a.length (critF (matF a.length a.length (shF a r.Den r.Num)) S a), 0), M.Conv_bind (impl_isSquare_ok sa) (M.Conv_ite (fun t => by rw [hs] at t; cases t) (fun _ => M.Conv_bind x1 (M.Conv_ite (fun t => by rw [h1] at t; cases t) (fun _ => M.Conv_bind (by rw [er]; exact criticalOf_ok hm h) (M.Conv_ret _))))), .inr ⟨rfl, code true hq, ?_, l, W, r, S, h, rfl, harc⟩⟩
    have hent := fun i j (hi : i < a.length) (hj : j < a.length) => h.ent hm hi hj
    have hlen := arcsV_len (critB (matF a.length a.length (shF a r.Den r.Num)) S) a.length a.length
    have hnn : a.length * a.length ≤ 100 := Nat.mul_le_mul (show a.length ≤ 10 by omega) (show a.length ≤ 10 by omega)
    have hloop := l06_loop hm.shp rfl (L := arcsV (critB (matF a.length a.length (shF a r.Den r.Num)) S) a.length a.length) (fun p hp => by
      have := (arcsV_mem _ _ _ p).1 hp
      exact ⟨this.1, this.2.1⟩) (by omega)
    unfold spec_l06Matrix
    refine M.Conv_bind (spec_l02Bottom_ok (by omega) (by omega)) (M.Conv_bind harc (M.Conv_bind hloop ((M.Conv_ret _).of (matF_congr fun i j hi hj => ?_))))
    unfold critF
    by_cases c : critB (matF a.length a.length (shF a r.Den r.Num)) S j i = true
    · rw [if_pos ((arcsV_mem _ _ _ _).2 ⟨hj, hi, c⟩), c]; rfl
    · rw [if_neg (fun hmem => c ((arcsV_mem _ _ _ _).1 hmem).2.2)]
      cases h2 : critB (matF a.length a.length (shF a r.Den r.Num)) S j i with
      | true => exact absurd h2 c
      | false => rfl

theorem bmset {n i j : Nat} {f g : Nat → Nat → Bool} {v : Bool} (hv : v = g i j) (e : ∀ p q, p < n → q < n → ¬ (p = i ∧ q = j) → f p q = g p q) : (bmF n f).set i ((tab n (f i)).set j v) = bmF n g := by
  by_cases hi : i < n
  · exact tab_set (tab_set hv fun q hq hne => e i q hi hq (by omega)) fun p hp hne => tab_congr fun q hq => e p q hp hq (by omega)
  · unfold bmF
    rw [List.set_eq_of_length_le (by rw [tab_len]; omega)]
    exact tab_congr fun p hp => tab_congr fun q hq => e p q hp hq (by omega)
def arcB (a : List (List Int)) (p q : Nat) : Bool := p == q || entA a q p != (-1000000000000000)
def warB (r : Nat → Nat → Bool) (k p q : Nat) : Bool := r p q || (r p k && r k q)
def mixB (f g : Nat → Nat → Bool) (i j p q : Nat) : Bool := bif decide (p < i) || (decide (p = i) && decide (q < j)) then g p q else f p q
theorem mix_step {n i j : Nat} {f g : Nat → Nat → Bool} {v : Bool} (hv : v = g i j) : (bmF n (mixB f g i j)).set i ((tab n (mixB f g i j i)).set j v) = bmF n (mixB f g i (j + 1)) := by
  refine bmset (by rw [hv]; simp [mixB]) fun p q _ _ h => ?_
  unfold mixB
  congr 1
  rw [Bool.eq_iff_iff]; simp; omega
theorem mix_row {n i : Nat} {f g : Nat → Nat → Bool} : bmF n (mixB f g i n) = bmF n (mixB f g (i + 1) 0) := by
  refine tab_congr fun p _ => tab_congr fun q hq => ?_
  unfold mixB
  congr 1
  rw [Bool.eq_iff_iff]; simp; omega
theorem mix_zero {n : Nat} {f g : Nat → Nat → Bool} : bmF n (mixB f g 0 0) = bmF n f := tab_congr fun p _ => tab_congr fun q _ => by simp [mixB]
theorem mix_all {n : Nat} {f g : Nat → Nat → Bool} : bmF n (mixB f g n 0) = bmF n g := tab_congr fun p hp => tab_congr fun q _ => by simp [mixB, hp]
def warN (a : List (List Int)) : Nat → Nat → Nat → Bool
  | 0 => arcB a
  | k + 1 => warB (warN a k) k
theorem warN_ok {a : List (List Int)} {n : Nat} : ∀ k, k ≤ n → (∀ v, warN a k v v = true) ∧ (∀ v i, v < n → i < n → arcE a v i → warN a k v i = true) ∧ (∀ v i, v < n → i < n → warN a k v i = true → Rch (arcE a) n v i) ∧ ∀ m v i, m < k → warN a k v m = true → warN a k m i = true → warN a k v i = true
  | 0, _ => ⟨fun v => by simp [warN, arcB], fun v i _ _ h => by
      unfold arcE at h
      simp [warN, arcB, h], fun v i hv hi h => by
      simp only [warN, arcB, Bool.or_eq_true, beq_iff_eq, bne_iff_ne, ne_eq] at h
      rcases h with rfl | h
      · exact .refl _ _ _
      · exact (Rch.refl _ _ _).step hv hi h, fun m v i hm => by omega⟩
  | k + 1, hk => by
    obtain ⟨h1, h2, h3, h4⟩ := warN_ok (a := a) (n := n) k (by omega)
    refine ⟨fun v => by simp [warN, warB, h1], fun v i hv hi h => by simp [warN, warB, h2 v i hv hi h], fun v i hv hi h => ?_, fun m v i hm ha hb => ?_⟩
    · simp only [warN, warB, Bool.or_eq_true, Bool.and_eq_true] at h
      rcases h with h | ⟨h, h'⟩
      · exact h3 v i hv hi h
      · exact (h3 v k hv (by omega) h).trans (h3 k i (by omega) hi h')
    · simp only [warN, warB, Bool.or_eq_true, Bool.and_eq_true] at ha hb ⊢
      have c1 := h4
      by_cases e : m = k
      · subst e
        have ha : warN a m v m = true := ha.elim id fun h => h.1
        have hb : warN a m m i = true := hb.elim id fun h => h.2
        exact .inr ⟨ha, hb⟩
      · have hm' : m < k := by omega
        rcases ha with ha | ⟨ha, ha'⟩
        · rcases hb with hb | ⟨hb, hb'⟩
          · exact .inl (h4 m v i hm' ha hb)
          · exact .inr ⟨h4 m v k hm' ha hb, hb'⟩
        · rcases hb with hb | ⟨hb, hb'⟩
          · exact .inr ⟨ha, h4 m k i hm' ha' hb⟩
          · exact .inr ⟨ha, hb'⟩
theorem war_reach {a : List (List Int)} {n v i : Nat} (hv : v < n) (hi : i < n) : warN a n v i = true ↔ Rch (arcE a) n v i := by
  obtain ⟨h1, h2, h3, h4⟩ := warN_ok (a := a) (n := n) n (Nat.le_refl _)
  refine ⟨h3 v i hv hi, fun ⟨k, h⟩ => ?_⟩
  induction h with
  | nil => exact h1 v
  | step k j i hj hjn hin he ih => exact h4 j v i hjn (ih hjn ⟨k, hj⟩) (h2 j i hjn hin he)
theorem war_keep {a : List (List Int)} {n k : Nat} (hk : k < n) {i j p q : Nat} (h : p = k ∨ q = k) : mixB (warN a k) (warB (warN a k) k) i j p q = warN a k p q := by
  have h1 := (warN_ok (a := a) (n := n) k (by omega)).1 k
  unfold mixB
  have : warB (warN a k) k p q = warN a k p q := by
    unfold warB
    rcases h with rfl | rfl
    · rw [h1]; simp
    · rw [h1]; simp
  rw [this]
  cases decide (p < i) || (decide (p = i) && decide (q < j)) <;> rfl
theorem mix_ne {f g : Nat → Nat → Bool} {i j p q : Nat} (h : ¬ (p < i ∨ (p = i ∧ q < j))) : mixB f g i j p q = f p q := by
  unfold mixB
  rw [show (decide (p < i) || (decide (p = i) && decide (q < j))) = false by rw [Bool.eq_false_iff]; simp; omega]; rfl
theorem reaching_ok {a : List (List Int)} (hs : Shp a a.length) : M.Conv (impl_reaching a) (bmF a.length (warN a a.length)) := by
  have hn := hs.rows
  have rdA : ∀ i j : Nat, i < a.length → j < a.length → M.Conv (M.idx a (i : Int)) (rowN a i) ∧ M.Conv (M.idx (rowN a i) (j : Int)) (entA a i j) := fun i j hi hj => by
    have hrl := hs.row _ (List.mem_of_getElem? (rowN_get (a := a) (i := i) hi))
    have g2 := nd_read (l := rowN a i) (i := j) (by omega)
    rw [nd_row hi] at g2
    exact ⟨get_row (rowN_get hi), g2⟩
  unfold impl_reaching
  refine M.Conv_bind ((M.Conv_make (by omega) (by omega)).of (r' := tab a.length fun p => bif decide (p < 0) then tab a.length (arcB a p) else []) (by rw [Int.toNat_natCast, tab_rep]; exact tab_congr fun i _ => by simp)) ?_
  rw [tab_len]
  refine M.Conv_bind (x := bmF a.length (arcB a)) ((Conv_forV (fun i => tab a.length fun p => bif decide (p < i) then tab a.length (arcB a p) else []) (by omega) fun i hi => ?_).of (tab_congr fun p hp => by rw [decide_eq_true hp]; rfl)) ?_
  · refine M.Conv_bind ((M.Conv_make (by omega) (by omega)).of (r' := tab a.length fun _ => false) (by rw [Int.toNat_natCast, tab_rep])) ?_
    let st : Nat → List (List Bool) := fun j => tab a.length fun p => if p = i then tab a.length (fun q => bif decide (q < j) then arcB a i q else false) else (bif decide (p < i) then tab a.length (arcB a p) else [])
    refine M.Conv_bind (idx_tab hi) (M.Conv_bind (x := st 0) ((M.Conv_upd (by rw [tab_len]; exact hi)).of (tab_set (by rw [if_pos rfl]; exact tab_congr fun q _ => by simp) fun p _ hp => by rw [if_neg hp])) (M.Conv_bind (x := st a.length) (Conv_forV st (by omega) fun j hj => ?_) ((M.Conv_ret _).of (congrArg Sum.inl (tab_congr fun p hp => ?_)))))
    · have hrow : M.Conv (M.idx (st j) (i : Int)) (tab a.length fun q => bif decide (q < j) then arcB a i q else false) := (idx_tab hi).of (if_pos rfl)
      have hset : ∀ v, v = arcB a i j → (st j).set i ((tab a.length fun q => bif decide (q < j) then arcB a i q else false).set j v) = st (j + 1) := fun v hv => by
        refine tab_set ?_ fun p _ hp => by simp only [if_neg hp]
        rw [if_pos rfl]
        refine tab_set (by simp [hv]) fun q _ hq => ?_
        congr 1
        rw [Bool.eq_iff_iff]; simp; omega
      refine M.Conv_bind (x := st (j + 1)) (M.Conv_bind hrow (M.Conv_ite (fun t => ?_) (fun t => ?_))) (M.Conv_ret _)
      · have e : i = j := by have := eq_of_beq t; omega
        exact M.Conv_bind (idx_tab hj) (M.Conv_bind (M.Conv_upd (by rw [tab_len]; exact hj)) ((M.Conv_ret _).of (hset _ (by simp [arcB, e]))))
      · have e : i ≠ j := fun e => by rw [e] at t; simp at t
        exact M.Conv_bind (rdA j i hj hi).1 (M.Conv_bind (rdA j i hj hi).2 (M.Conv_bind (idx_tab hj) (M.Conv_bind (M.Conv_upd (by rw [tab_len]; exact hj)) ((M.Conv_ret _).of (hset _ (by simp [arcB, e]))))))
    · by_cases e : p = i
      · rw [if_pos e, e, show decide (i < i + 1) = true by simp]
        exact tab_congr fun q hq => by rw [decide_eq_true hq]; rfl
      · rw [if_neg e]
        congr 1
        rw [Bool.eq_iff_iff]; simp; omega
  · refine M.Conv_bind (x := bmF a.length (warN a a.length)) (Conv_forV (fun k => bmF a.length (warN a k)) (by omega) fun k hk => ?_) (M.Conv_ret _)
    have e0 : bmF a.length (warN a k) = bmF a.length (mixB (warN a k) (warN a (k + 1)) 0 0) := mix_zero.symm
    rw [e0]
    refine M.Conv_bind ((Conv_forV (fun i => bmF a.length (mixB (warN a k) (warN a (k + 1)) i 0)) (by omega) fun i hi => ?_).of mix_all) (M.Conv_ret _)
    refine M.Conv_bind (Conv_forV (fun j => bmF a.length (mixB (warN a k) (warN a (k + 1)) i j)) (by omega) fun j hj => ?_) ((M.Conv_ret _).of (congrArg Sum.inl mix_row))
    have k1 : mixB (warN a k) (warN a (k + 1)) i j i j = warN a k i j := mix_ne (by omega)
    have k2 : mixB (warN a k) (warN a (k + 1)) i j i k = warN a k i k := war_keep hk (.inr rfl)
    have k3 : mixB (warN a k) (warN a (k + 1)) i j k j = warN a k k j := war_keep hk (.inl rfl)
    have upd : ∀ v, v = warN a (k + 1) i j → M.Conv (M.upd (tab a.length (mixB (warN a k) (warN a (k + 1)) i j i)) (j : Int) v) ((tab a.length (mixB (warN a k) (warN a (k + 1)) i j i)).set j v) ∧ (bmF a.length (mixB (warN a k) (warN a (k + 1)) i j)).set ((i : Int)).toNat ((tab a.length (mixB (warN a k) (warN a (k + 1)) i j i)).set j v) = bmF a.length (mixB (warN a k) (warN a (k + 1)) i (j + 1)) := fun v hv => ⟨M.Conv_upd (by rw [tab_len]; exact hj), by rw [Int.toNat_natCast]; exact mix_step hv⟩
    refine M.Conv_bind (x := bmF a.length (mixB (warN a k) (warN a (k + 1)) i (j + 1))) (M.Conv_bind (idx_tab hk) (M.Conv_bind (idx_tab hi) (M.Conv_bind (idx_tab hi) (M.Conv_bind ((idx_tab hj).of k1) (M.Conv_ite (fun t => ?_) (fun t => M.Conv_bind ((idx_tab hk).of k2) (M.Conv_ite (fun t2 => ?_) (fun t2 => ?_)))))))) (M.Conv_ret _)
    · obtain ⟨u1, u2⟩ := upd true (by simp [warN, warB, t])
      exact M.Conv_bind (idx_tab hj) (M.Conv_bind u1 ((M.Conv_ret _).of u2))
    · obtain ⟨u1, u2⟩ := upd (warN a k k j) (by simp [warN, warB, t, t2])
      exact M.Conv_bind ((idx_tab hj).of k3) (M.Conv_bind (idx_tab hj) (M.Conv_bind u1 ((M.Conv_ret _).of u2)))
    · obtain ⟨u1, u2⟩ := upd false (by simp [warN, warB, t, t2])
      exact M.Conv_bind (idx_tab hj) (M.Conv_bind u1 ((M.Conv_ret _).of u2))
theorem compsF_congr {n : Nat} {r r' : Nat → Nat → Bool} (h : ∀ v i, v < n → i < n → r v i = r' v i) : compsF r n = compsF r' n := by
  have hc : ∀ v, v < n → compF r n v = compF r' n v := fun v hv => by
    unfold compF
    congr 1
    refine List.filter_congr fun w hw => ?_
    have hw := List.mem_range.1 hw
    rw [h v w hv hw, h w v hw hv]
  unfold compsF
  rw [List.filter_congr (q := fun (v : Nat) => (compF r' n v).head? == some (v : Int)) fun v hv => by rw [hc v (List.mem_range.1 hv)]]
  exact List.map_congr_left fun v hv => hc v (List.mem_range.1 (List.mem_filter.1 hv).1)
/-- the components by both roads -/
theorem components_both {a : List (List Int)} (hs : Shp a a.length) : ∃ r : Nat → Nat → Bool, M.Conv (spec_l05Components a) (compsF r a.length) ∧ M.Conv (impl_componentsOf a) (compsF r a.length) ∧ ∀ v i, v < a.length → i < a.length → (r v i = true ↔ Rch (arcE a) a.length v i) := by
  obtain ⟨r, h1, h2⟩ := spec_l05Components_ok hs
  have hn := hs.rows
  refine ⟨r, h1, ?_, h2⟩
  rw [compsF_congr (r' := warN a a.length) fun v i hv hi => by rw [Bool.eq_iff_iff, h2 v i hv hi, war_reach hv hi]]
  unfold impl_componentsOf
  exact M.Conv_bind (reaching_ok hs) (comps_ok (by omega) fun v hv => (war_reach hv hv).2 (Rch.refl _ _ _))

theorem CritP.arc {a : List (List Int)} (hm : Mat a a.length) {l : List Nat} {W : Int} {r : TRatio} {S : List (List Int)} (h : CritP a l W r S) {i k : Nat} (hi : i < a.length) (hk : k < a.length) : arcE (matF a.length a.length (critF (matF a.length a.length (shF a r.Den r.Num)) S a)) k i ↔ critB (matF a.length a.length (shF a r.Den r.Num)) S k i = true := by
  unfold arcE
  rw [entA_matF hi hk]
  unfold critF
  obtain ⟨e1, e2⟩ := h.ent hm hi hk
  have hci := critB_iff e1 e2
  cases c : critB (matF a.length a.length (shF a r.Den r.Num)) S k i with
  | false => simp
  | true =>
    obtain ⟨q1, _, _⟩ := hci.1 c
    simp only [cond_true, iff_true]
    rcases h.sh.val hi hk with e | e
    · exact absurd e.2 q1
    · exact e.1
theorem CritP.on {a : List (List Int)} (hm : Mat a a.length) {l : List Nat} {W : Int} {r : TRatio} {S : List (List Int)} (h : CritP a l W r S) {i j : Nat} (hi : i < a.length) (hj : j < a.length) {b0 : Int} (hb : entA (matF a.length a.length (shF a r.Den r.Num)) i j = b0) (hne : b0 ≠ -1000000000000000) :
    ∀ {m x : Nat} {w1 : Int}, Wlk (matF a.length a.length (shF a r.Den r.Num)) a.length i m x w1 → ∀ {m2 : Nat} {w2 : Int}, Wlk (matF a.length a.length (shF a r.Den r.Num)) a.length x m2 j w2 → w1 + w2 + b0 = 0 → Rch (arcE (matF a.length a.length (critF (matF a.length a.length (shF a r.Den r.Num)) S a))) a.length i x := by
  intro m x w1 h1
  induction h1 with
  | nil _ => intro m2 w2 _ _; exact .refl _ _ _
  | step m y x w0 hw hx ha ih =>
    intro m2 w2 h2 hsum
    have hy := hw.lt.2
    -- from y on: the arc, then the rest
    have hrest : Wlk (matF a.length a.length (shF a r.Den r.Num)) a.length y (1 + m2) j (entA (matF a.length a.length (shF a r.Den r.Num)) x y + w2) := by
      have := Wlk.step 0 y x 0 (.nil hy) hx ha
      rw [Int.zero_add] at this
      exact Wlk.trans (k := 1) this h2
    have hr := ih hrest (by omega)
    refine hr.step hy hx ((h.arc hm hx hy).2 ?_)
    obtain ⟨e1, e2⟩ := h.ent hm hx hy
    -- back from x to y
    have hback : Wlk (matF a.length a.length (shF a r.Den r.Num)) a.length x (m2 + 1 + m) y (w2 + b0 + w0) := by
      have := Wlk.step m2 j i w2 h2 hi (by rw [hb]; exact hne)
      rw [hb] at this
      exact this.trans hw
    obtain ⟨c1, c2⟩ := h.st.cpl y x _ _ hback
    obtain ⟨k, hk⟩ := (h.st.snd y x hy hx).resolve_left c1
    have hcl := h.np.closed (Wlk.step k y x _ hk hx ha)
    exact (critB_iff e1 e2).2 ⟨ha, c1, by omega⟩
theorem CritP.back {a : List (List Int)} (hm : Mat a a.length) {l : List Nat} {W : Int} {r : TRatio} {S : List (List Int)} (h : CritP a l W r S) {i j : Nat} (hi : i < a.length) (hj : j < a.length) (hc : critB (matF a.length a.length (shF a r.Den r.Num)) S j i = true) : Rch (arcE (matF a.length a.length (critF (matF a.length a.length (shF a r.Den r.Num)) S a))) a.length i j := by
  obtain ⟨e1, e2⟩ := h.ent hm hi hj
  obtain ⟨q1, q2, q3⟩ := (critB_iff e1 e2).1 hc
  obtain ⟨k, hk⟩ := (h.st.snd j i hj hi).resolve_left q2
  exact h.on hm hi hj rfl q1 hk (.nil hj) (by omega)
/-- a component keeps its first node's arcs -/
theorem CritP.keep {a : List (List Int)} (hm : Mat a a.length) {l : List Nat} {W : Int} {r : TRatio} {S : List (List Int)} (h : CritP a l W r S) {rr : Nat → Nat → Bool} (hr : ∀ v i, v < a.length → i < a.length → (rr v i = true ↔ Rch (arcE (matF a.length a.length (critF (matF a.length a.length (shF a r.Den r.Num)) S a))) a.length v i)) {v : Nat} (hv : v < a.length) :
    (∃ i, i < a.length ∧ critB (matF a.length a.length (shF a r.Den r.Num)) S v i = true) ↔ ¬ ((compF rr a.length v).length = 1 ∧ critB (matF a.length a.length (shF a r.Den r.Num)) S v v = false) := by
  have hvv : (v : Int) ∈ compF rr a.length v := compF_mem.2 ⟨v, rfl, hv, (hr v v hv hv).2 (.refl _ _ _), (hr v v hv hv).2 (.refl _ _ _)⟩
  constructor
  · rintro ⟨i, hi, hc⟩ ⟨h1, h2⟩
    have a1 : rr v i = true := (hr v i hv hi).2 ((Rch.refl _ _ _).step hv hi ((h.arc hm hi hv).2 hc))
    have a2 : rr i v = true := (hr i v hi hv).2 (h.back hm hi hv hc)
    have him : (i : Int) ∈ compF rr a.length v := compF_mem.2 ⟨i, rfl, hi, a1, a2⟩
    obtain ⟨x, hx⟩ := List.length_eq_one_iff.1 h1
    rw [hx, List.mem_singleton] at hvv him
    have : i = v := by omega
    rw [this] at hc
    rw [hc] at h2; cases h2
  · intro hno
    by_cases hself : critB (matF a.length a.length (shF a r.Den r.Num)) S v v = true
    · exact ⟨v, hv, hself⟩
    · have hlen : (compF rr a.length v).length ≠ 1 := fun e => hno ⟨e, by simpa using hself⟩
      -- another node of the component
      have : ∃ u, u < a.length ∧ u ≠ v ∧ rr v u = true := by
        apply Classical.byContradiction
        intro hnone
        refine hlen ?_
        have e : compF rr a.length v = [(v : Int)] := by
          unfold compF
          have : ((List.range a.length).filter fun w => rr v w && rr w v) = [v] := by
            have hvm : v ∈ (List.range a.length).filter fun w => rr v w && rr w v := by
              rw [List.mem_filter]
              exact ⟨List.mem_range.2 hv, by rw [(hr v v hv hv).2 (.refl _ _ _)]; rfl⟩
            have hall : ∀ w ∈ (List.range a.length).filter fun w => rr v w && rr w v, w = v := fun w hw => by
              rw [List.mem_filter, List.mem_range, Bool.and_eq_true] at hw
              exact Classical.byContradiction fun hne => hnone ⟨w, hw.1, hne, hw.2.1⟩
            have hnd : ((List.range a.length).filter fun w => rr v w && rr w v).Nodup := List.nodup_range.filter _
            revert hvm hall hnd
            generalize (List.range a.length).filter (fun w => rr v w && rr w v) = L
            intro hvm hall hnd
            cases L with
            | nil => simp at hvm
            | cons x L =>
              have hx := hall x List.mem_cons_self
              cases L with
              | nil => rw [hx]
              | cons y L =>
                have hy := hall y (by simp)
                rw [hx, hy] at hnd
                simp at hnd
          rw [this]; rfl
        rw [e]; rfl
      obtain ⟨u, hu, hne, hru⟩ := this
      obtain ⟨k, hk⟩ := (hr v u hv hu).1 hru
      -- the first arc of the way from v
      have first : ∀ {k u : Nat}, RK (arcE (matF a.length a.length (critF (matF a.length a.length (shF a r.Den r.Num)) S a))) a.length v k u → u ≠ v → ∃ i, i < a.length ∧ critB (matF a.length a.length (shF a r.Den r.Num)) S v i = true := by
        intro k u hk
        induction hk with
        | nil k => intro hne; exact absurd rfl hne
        | step k j i _ hj hi he ih =>
          intro _
          by_cases e : j = v
          · subst e
            exact ⟨i, hi, (h.arc hm hi hj).1 he⟩
          · exact ih e
      exact first hk hne

def firsts (L : List (Nat × Nat)) (o : List Nat) : List Nat := L.foldl (fun o p => if p.1 ∈ o then o else o ++ [p.1]) o
theorem firsts_snoc (L : List (Nat × Nat)) (p : Nat × Nat) (o : List Nat) : firsts (L ++ [p]) o = if p.1 ∈ firsts L o then firsts L o else firsts L o ++ [p.1] := by
  unfold firsts; rw [List.foldl_append]; rfl
theorem firsts_app (L M : List (Nat × Nat)) (o : List Nat) : firsts (L ++ M) o = firsts M (firsts L o) := by
  unfold firsts; rw [List.foldl_append]
theorem firsts_len : ∀ (L : List (Nat × Nat)) (o : List Nat), (firsts L o).length ≤ o.length + L.length
  | [], o => by simp [firsts]
  | p :: L, o => by
    show (firsts L (if p.1 ∈ o then o else o ++ [p.1])).length ≤ _
    by_cases e : p.1 ∈ o
    · rw [if_pos e]
      have := firsts_len L o
      simp only [List.length_cons]; omega
    · rw [if_neg e]
      have := firsts_len L (o ++ [p.1])
      simp only [List.length_cons, List.length_append, List.length_nil] at this ⊢; omega
theorem firsts_in {j : Nat} : ∀ (L : List (Nat × Nat)) (o : List Nat), (∀ p ∈ L, p.1 = j) → j ∈ o → firsts L o = o
  | [], o, _, _ => rfl
  | p :: L, o, h, hj => by
    show firsts L (if p.1 ∈ o then o else o ++ [p.1]) = o
    rw [if_pos (by rw [h p List.mem_cons_self]; exact hj)]
    exact firsts_in L o (fun q hq => h q (List.mem_cons_of_mem _ hq)) hj
def nodesC (c : Nat → Nat → Bool) (n m : Nat) : List Nat := (List.range m).filter fun j => (List.range n).any (c j)
theorem firsts_arcs (c : Nat → Nat → Bool) (n : Nat) : ∀ m, firsts (arcsV c n m) [] = nodesC c n m
  | 0 => rfl
  | m + 1 => by
    rw [arcsV, firsts_app, firsts_arcs c n m]
    have hout : m ∉ nodesC c n m := fun h => by
      unfold nodesC at h
      rw [List.mem_filter, List.mem_range] at h
      omega
    have hall : ∀ p ∈ arcsR c m n, p.1 = m := fun p hp => by
      unfold arcsR at hp
      obtain ⟨i, _, rfl⟩ := List.mem_map.1 hp
      rfl
    have hmem : ∀ i, (m, i) ∈ arcsR c m n ↔ i < n ∧ c m i = true := fun i => by
      unfold arcsR
      simp only [List.mem_map, List.mem_filter, List.mem_range]
      constructor
      · rintro ⟨q, hq, e⟩
        have : q = i := by simpa using congrArg Prod.snd e
        rw [← this]; exact hq
      · exact fun h => ⟨i, h, rfl⟩
    unfold nodesC at hout ⊢
    rw [List.range_succ, List.filter_append]
    cases hany : (List.range n).any (c m) with
    | true =>
      have e2 : [m].filter (fun j => (List.range n).any (c j)) = [m] := by simp only [List.filter_cons, hany, if_true, List.filter_nil]
      rw [e2]
      rw [List.any_eq_true] at hany
      obtain ⟨i, hi, hc⟩ := hany
      have h1 := (hmem i).2 ⟨List.mem_range.1 hi, hc⟩
      cases hL : arcsR c m n with
      | nil => rw [hL] at h1; simp at h1
      | cons p L =>
        have hp := hall p (by rw [hL]; exact List.mem_cons_self)
        show firsts L (if p.1 ∈ _ then _ else _) = _
        rw [hp, if_neg hout]
        exact firsts_in L _ (fun q hq => hall q (by rw [hL]; exact List.mem_cons_of_mem _ hq)) (by simp)
    | false =>
      have e2 : [m].filter (fun j => (List.range n).any (c j)) = [] := by simp only [List.filter_cons, hany, Bool.false_eq_true, if_false, List.filter_nil]
      rw [e2, List.append_nil]
      have : arcsR c m n = [] := by
        unfold arcsR
        rw [List.map_eq_nil_iff, List.filter_eq_nil_iff]
        intro i hi hc
        rw [← Bool.not_eq_true, List.any_eq_true] at hany
        exact hany ⟨i, hi, hc⟩
      rw [this]; rfl
theorem nodes_conv {a : List (List Int)} {c : Nat → Nat → Bool} {n : Nat} (hn : n ≤ 10) (h : M.Conv (spec_l06Arcs a) ((arcsV c n n).map encA)) : M.Conv (spec_l06Nodes a) (toI (nodesC c n n)) := by
  have hlen := arcsV_len c n n
  have hnn : n * n ≤ 100 := Nat.mul_le_mul hn hn
  rw [← firsts_arcs c n n]
  generalize arcsV c n n = L at h hlen
  unfold spec_l06Nodes
  refine M.Conv_bind h (M.Conv_bind (x := toI (firsts L [])) ?_ (M.Conv_ret _))
  have e : toI (firsts L []) = toI (firsts (L.take L.length) []) := by rw [List.take_length]
  rw [e, List.length_map]
  refine Conv_forV (fun k => toI (firsts (L.take k) [])) (by omega) fun k hk => ?_
  have ht : L.take (k + 1) = L.take k ++ [L[k]] := by rw [List.take_add_one]; simp [hk]
  have hp : M.Conv (M.idx (L.map encA) (k : Int)) (encA L[k]) := M.Conv_idx (by simp [hk])
  have hfl := firsts_len (L.take k) []
  rw [List.length_take, List.length_nil] at hfl
  simp only [ht, firsts_snoc]
  generalize L[k] = p at *
  have hx : M.Conv (M.idx (encA p) 0) (p.1 : Int) := M.Conv_idx (i := 0) rfl
  have hhas := l01Has_ok (l := toI (firsts (L.take k) [])) (p.1 : Int) (by rw [List.length_map]; omega)
  have hb : ((toI (firsts (L.take k) [])).any fun y => y == (p.1 : Int)) = decide (p.1 ∈ firsts (L.take k) []) := by
    rw [Bool.eq_iff_iff, List.any_eq_true, decide_eq_true_eq]
    constructor
    · rintro ⟨y, hy, e⟩
      rw [eq_of_beq e] at hy
      exact toI_mem.1 hy
    · exact fun hm => ⟨_, toI_mem.2 hm, by simp⟩
  rw [hb] at hhas
  refine M.Conv_bind hp (M.Conv_bind hx (M.Conv_bind hhas (M.Conv_bind (x := toI (if p.1 ∈ firsts (L.take k) [] then firsts (L.take k) [] else firsts (L.take k) [] ++ [p.1])) (M.Conv_ite (fun t => ?_) (fun t => ?_)) (M.Conv_ret _))))
  · have t : p.1 ∉ firsts (L.take k) [] := by simpa using t
    rw [if_neg t]
    exact M.Conv_bind hp (M.Conv_bind hx (M.Conv_bind ((M.Conv_app (by simp; omega)).of (by simp)) (M.Conv_ret _)))
  · have t : p.1 ∈ firsts (L.take k) [] := by simpa using t
    rw [if_pos t]
    exact M.Conv_ret _

theorem find_row {s : List (List Int)} {del : List (List Int)} {p : List Int → Bool} (hs : s.length ≤ 1099511627776) (hp : ∀ x ∈ s, M.Conv (impl_criticalComponents_1 x del) (p x)) :
    M.TC (slices_IndexFunc_row_F_impl_criticalComponents_1 s del) (fun q => (q = -1 ∧ ∀ x ∈ s, p x = false) ∨ ∃ (i : Nat) (x : List Int), q = i ∧ s[i]? = some x ∧ p x = true ∧ ∀ y ∈ s.take i, p y = false) := by
  unfold slices_IndexFunc_row_F_impl_criticalComponents_1
  refine M.TC_bind (M.TC_forE (fun k (_ : Unit) => ∀ y ∈ s.take k, p y = false) (fun q => ∃ (i : Nat) (x : List Int), q = (i : Int) ∧ s[i]? = some x ∧ p x = true ∧ ∀ y ∈ s.take i, p y = false) (by omega) (by simp) (fun i u hi hI => ?_)) fun y hy => ?_
  · have hx := List.getElem?_eq_getElem hi
    have c := hp s[i] (List.getElem_mem hi)
    have e : s.take (i + 1) = s.take i ++ [s[i]] := by rw [List.take_add_one]; simp [hi]
    generalize s[i] = x at hx c e
    refine M.TC_bindC (M.Conv_idx hx) (M.TC_bindC c (M.TC_ite (fun t => M.TC_ret (.inr ⟨_, rfl, i, x, rfl, hx, t, hI⟩)) (fun t => M.TC_ret (.inl ⟨_, rfl, fun y hy => ?_⟩))))
    rw [e, List.mem_append, List.mem_singleton] at hy
    rcases hy with hy | rfl
    · exact hI y hy
    · exact t
  · rcases hy with ⟨u, rfl, h⟩ | ⟨r, rfl, h⟩
    · exact M.TC_ret (.inl ⟨rfl, fun x hx => h x (by rw [List.take_of_length_le (Nat.le_refl _)]; exact hx)⟩)
    · exact M.TC_ret (.inr h)
theorem del_ok {s : List (List Int)} {del : List (List Int)} {p : List Int → Bool} (hs : s.length ≤ 1099511627776) (hp : ∀ x ∈ s, M.Conv (impl_criticalComponents_1 x del) (p x)) :
    M.Conv (slices_DeleteFunc_row_F_impl_criticalComponents_1 s del) (s.filter fun x => !p x) := by
  apply M.TC.conv
  unfold slices_DeleteFunc_row_F_impl_criticalComponents_1
  refine M.TC_bind (find_row hs hp) fun q hq => ?_
  rcases hq with ⟨rfl, h⟩ | ⟨i, x, rfl, hx, hpx, h⟩
  · exact M.TC_ite (fun _ => M.TC_ret (List.filter_eq_self.2 fun y hy => by rw [h y hy]; rfl).symm) (fun t => by simp at t)
  · have hi := (List.getElem?_eq_some_iff.1 hx).1
    refine M.TC_ite (fun t => by have := eq_of_beq t; omega) (fun _ => ?_)
    rw [w64_eq _ (by omega)]
    refine M.TC_bind (M.TC_for (Post := fun (y : List (List Int) × Int) => ∃ k : Nat, y.2 = k ∧ k ≤ s.length ∧ y.1.length = s.length ∧ y.1.take k = s.filter fun x => !p x) (fun j (y : List (List Int) × Int) => ∃ k m : Nat, y.2 = k ∧ j = m ∧ k ≤ m ∧ m ≤ s.length ∧ y.1.length = s.length ∧ y.1.take k = ((s.take m).filter fun x => !p x) ∧ y.1.drop m = s.drop m) (s, (i : Int)) (by omega) (by omega) ⟨i, i + 1, rfl, by omega, by omega, by omega, rfl, ?_, rfl⟩ (fun j y h1 h2 hI => ?_) (fun j y hj hI => ?_)) fun y hy => ?_
    · rw [List.take_add_one, hx, List.filter_append, List.filter_eq_self.2 fun y hy => by rw [h y hy]; rfl]
      simp [hpx]
    · obtain ⟨L, k'⟩ := y
      obtain ⟨k, m, rfl, rfl, h3, h4, h5, h6, h7⟩ := hI
      simp only at h5 h6 h7
      have hm : m < s.length := by omega
      have hget : L[m]? = some s[m] := by
        have e1 : (L.drop m)[0]? = (s.drop m)[0]? := by rw [h7]
        rw [List.getElem?_drop, List.getElem?_drop, Nat.add_zero, List.getElem?_eq_getElem hm] at e1
        exact e1
      have c := hp s[m] (List.getElem_mem hm)
      have e : s.take (m + 1) = s.take m ++ [s[m]] := by rw [List.take_add_one]; simp [hm]
      have h8 : L.drop (m + 1) = s.drop (m + 1) := by
        have := congrArg (List.drop 1) h7
        rwa [List.drop_drop, List.drop_drop] at this
      generalize s[m] = x' at hget c e
      refine M.TC_bindC (M.Conv_idx hget) (M.TC_bindC c ?_)
      cases hpx' : p x' with
      | true =>
        refine M.TC_bindC (x := (L, (k : Int))) (M.Conv_ite (fun t => by cases t) (fun _ => M.Conv_ret _)) (M.TC_ret (.inl ⟨_, rfl, k, m + 1, rfl, by omega, by omega, by omega, h5, ?_, h8⟩))
        rw [e, List.filter_append, h6]
        simp [hpx']
      | false =>
        have hk : k < L.length := by omega
        refine M.TC_bindC (x := (L.set k x', (k : Int) + 1)) (M.Conv_ite (fun _ => M.Conv_bind (M.Conv_idx (List.getElem?_eq_getElem hk)) (M.Conv_bind (M.Conv_upd hk) ((M.Conv_ret _).of ?_))) (fun t => by cases t)) (M.TC_ret (.inl ⟨_, rfl, k + 1, m + 1, by simp, by omega, by omega, by omega, by simpa using h5, ?_, ?_⟩))
        · rw [w64_eq _ (by omega)]
        · simp only
          rw [e, List.filter_append, ← h6, List.take_add_one, List.getElem?_set_self hk, List.take_set_of_le (Nat.le_refl _)]
          simp [hpx']
        · simp only
          rw [List.drop_set_of_lt (by omega)]; exact h8
    · obtain ⟨k, m, h1, rfl, h3, h4, h5, h6, h7⟩ := hI
      have : m = s.length := by omega
      subst this
      rw [List.take_of_length_le (Nat.le_refl _)] at h6
      exact ⟨k, h1, h3, h5, h6⟩
    · obtain ⟨L, k'⟩ := y
      obtain ⟨k, rfl, h1, h2, h3⟩ := hy
      simp only at h2 h3
      have hlk : (L.take k).length = k := by rw [List.length_take]; omega
      refine M.TC_bindC (M.Conv_sub (by omega) (by show (k : Int) ≤ (s.length : Int); omega) (by show (s.length : Int) ≤ (L.length : Int); omega)) (M.TC_bindC (M.Conv_sub (by omega) (by omega) (by simp; omega)) (M.TC_ret ?_))
      simp only [Int.toNat_zero, List.drop_zero, Int.toNat_natCast, Nat.sub_zero]
      have e3 : (L.take k ++ List.replicate (s.length - k) []).take k = L.take k := by rw [List.take_append_of_le_length (by omega), List.take_of_length_le (by omega)]
      exact e3.trans h3
/-- the components that have an arc -/
def keepF (rr : Nat → Nat → Bool) (c : Nat → Nat → Bool) (n : Nat) : List (List Int) := ((List.range n).filter fun v => ((compF rr n v).head? == some (v : Int)) && (List.range n).any (c v)).map (compF rr n)
theorem lcomps_both {a : List (List Int)} (hm : Mat a a.length) {l : List Nat} {W : Int} {r : TRatio} {S : List (List Int)} (h : CritP a l W r S) (hmat : M.Conv (spec_l06Matrix a) (matF a.length a.length (critF (matF a.length a.length (shF a r.Den r.Num)) S a)))
    (harc : M.Conv (spec_l06Arcs a) ((arcsV (critB (matF a.length a.length (shF a r.Den r.Num)) S) a.length a.length).map encA)) :
    ∃ rr : Nat → Nat → Bool, (∀ v i, v < a.length → i < a.length → (rr v i = true ↔ Rch (arcE (matF a.length a.length (critF (matF a.length a.length (shF a r.Den r.Num)) S a))) a.length v i)) ∧
      M.Conv (impl_criticalComponents (matF a.length a.length (critF (matF a.length a.length (shF a r.Den r.Num)) S a))) (keepF rr (critB (matF a.length a.length (shF a r.Den r.Num)) S) a.length) ∧
      M.Conv (spec_l06Components a) (keepF rr (critB (matF a.length a.length (shF a r.Den r.Num)) S) a.length) := by
  have hrows := hm.rows
  have hnodes := nodes_conv (by omega) harc
  have harcs : ∀ {i k : Nat}, i < a.length → k < a.length → (arcE (matF a.length a.length (critF (matF a.length a.length (shF a r.Den r.Num)) S a)) k i ↔ critB (matF a.length a.length (shF a r.Den r.Num)) S k i = true) := fun hi hk => h.arc hm hi hk
  have hkeep := fun {rr : Nat → Nat → Bool} (hr : ∀ v i, v < a.length → i < a.length → (rr v i = true ↔ Rch (arcE (matF a.length a.length (critF (matF a.length a.length (shF a r.Den r.Num)) S a))) a.length v i)) {v : Nat} (hv : v < a.length) => h.keep hm hr hv
  generalize critB (matF a.length a.length (shF a r.Den r.Num)) S = c at *
  have hC : ∀ {i j : Nat}, i < a.length → j < a.length → M.Conv (M.idx (matF a.length a.length (critF (matF a.length a.length (shF a r.Den r.Num)) S a)) (i : Int)) (rowN (matF a.length a.length (critF (matF a.length a.length (shF a r.Den r.Num)) S a)) i) ∧ M.Conv (M.idx (rowN (matF a.length a.length (critF (matF a.length a.length (shF a r.Den r.Num)) S a)) i) (j : Int)) (entA (matF a.length a.length (critF (matF a.length a.length (shF a r.Den r.Num)) S a)) i j) := fun {i j} hi hj => by
    have hs : Shp (matF a.length a.length (critF (matF a.length a.length (shF a r.Den r.Num)) S a)) a.length := shp_of (by omega) (by omega)
    have hl := matF_len a.length a.length (critF (matF a.length a.length (shF a r.Den r.Num)) S a)
    have hrl := hs.row _ (List.mem_of_getElem? (rowN_get (a := matF a.length a.length (critF (matF a.length a.length (shF a r.Den r.Num)) S a)) (i := i) (by omega)))
    have g2 := nd_read (l := rowN (matF a.length a.length (critF (matF a.length a.length (shF a r.Den r.Num)) S a)) i) (i := j) (by omega)
    rw [nd_row (by omega)] at g2
    exact ⟨get_row (rowN_get (by omega)), g2⟩
  have hsC : Shp (matF a.length a.length (critF (matF a.length a.length (shF a r.Den r.Num)) S a)) a.length := shp_of (by omega) (by omega)
  have hlC := matF_len a.length a.length (critF (matF a.length a.length (shF a r.Den r.Num)) S a)
  generalize matF a.length a.length (critF (matF a.length a.length (shF a r.Den r.Num)) S a) = C at *
  obtain ⟨rr, k1, k2, k3⟩ := components_both (a := C) (by rw [hlC]; exact hsC)
  rw [hlC] at k1 k2 k3
  refine ⟨rr, k3, ?_, ?_⟩
  · -- the program's road
    let p : List Int → Bool := fun x => (x.length == 1) && (entA C (x.headD 0).toNat (x.headD 0).toNat == -1000000000000000)
    have hd : ∀ x ∈ compsF rr a.length, ∃ v, v < a.length ∧ x.head? = some (v : Int) := fun x hx => by
      unfold compsF at hx
      obtain ⟨v, hv, rfl⟩ := List.mem_map.1 hx
      rw [List.mem_filter, List.mem_range] at hv
      exact ⟨v, hv.1, eq_of_beq hv.2⟩
    have hp : ∀ x ∈ compsF rr a.length, M.Conv (impl_criticalComponents_1 x C) (p x) := fun x hx => by
      obtain ⟨v, hv, e⟩ := hd x hx
      have e0 : x[0]? = some (v : Int) := by rw [← List.head?_eq_getElem?]; exact e
      have e1 : (x.headD 0).toNat = v := by rw [List.headD_eq_head?_getD, e]; rfl
      unfold impl_criticalComponents_1
      refine M.Conv_bind (M.Conv_idx (i := 0) e0) (M.Conv_bind (x := p x) (M.Conv_ite (fun t => M.Conv_bind (hC hv hv).1 (M.Conv_bind (hC hv hv).2 ((M.Conv_ret _).of ?_))) (fun t => (M.Conv_ret _).of ?_)) (M.Conv_ret _))
      · have t : x.length = 1 := by have := eq_of_beq t; omega
        simp only [p, e1, t]; simp
      · have t : x.length ≠ 1 := fun e => by rw [e] at t; simp at t
        simp only [p]
        rw [show (x.length == 1) = false by simpa using t]; rfl
    have hdel := del_ok (s := compsF rr a.length) (del := C) (p := p) (by have := compsF_len (r := rr) (n := a.length); omega) hp
    unfold impl_criticalComponents
    refine M.Conv_bind k2 (M.Conv_bind hdel ((M.Conv_ret _).of ?_))
    unfold compsF keepF
    rw [List.filter_map, List.filter_filter]
    congr 1
    refine List.filter_congr fun v hv => ?_
    have hv := List.mem_range.1 hv
    simp only [Function.comp]
    rw [Bool.and_comm]
    cases hh : (compF rr a.length v).head? == some (v : Int) with
    | false => rfl
    | true =>
      simp only [Bool.true_and]
      have e := eq_of_beq hh
      have e1 : ((compF rr a.length v).headD 0).toNat = v := by rw [List.headD_eq_head?_getD, e]; rfl
      have hk := hkeep k3 hv
      have ha := harcs hv hv
      unfold arcE at ha
      rw [Bool.eq_iff_iff]
      simp only [p, e1]
      rw [List.any_eq_true]
      simp only [List.mem_range]
      rw [hk]
      simp only [Bool.not_eq_true', Bool.and_eq_false_iff, beq_eq_false_iff_ne, ne_eq]
      rw [← Bool.not_eq_true (c v v), ← ha]
      by_cases q1 : (compF rr a.length v).length = 1 <;> by_cases q2 : entA C v v = -1000000000000000 <;> simp [q1, q2]
  · unfold spec_l06Components
    refine M.Conv_bind hmat (M.Conv_bind k1 (M.Conv_bind hnodes (M.Conv_bind (x := keepF rr c a.length) ?_ (M.Conv_ret _))))
    have hcl := compsF_len (r := rr) (n := a.length)
    have hkf : keepF rr c a.length = (compsF rr a.length).filter fun x => (toI (nodesC c a.length a.length)).any fun y => y == x.headD 0 := by
      unfold compsF keepF
      rw [List.filter_map, List.filter_filter]
      congr 1
      refine List.filter_congr fun v hv => ?_
      have hv := List.mem_range.1 hv
      simp only [Function.comp]
      rw [Bool.and_comm]
      cases hh : (compF rr a.length v).head? == some (v : Int) with
      | false => simp
      | true =>
        have e := eq_of_beq hh
        rw [Bool.and_true, Bool.and_true, List.headD_eq_head?_getD, e]
        rw [Bool.eq_iff_iff, List.any_eq_true (p := fun y => y == _)]
        simp only [Option.getD_some, beq_iff_eq]
        constructor
        · intro hany
          refine ⟨(v : Int), toI_mem.2 ?_, rfl⟩
          unfold nodesC
          rw [List.mem_filter, List.mem_range]
          exact ⟨hv, hany⟩
        · rintro ⟨y, hy, rfl⟩
          have := toI_mem.1 hy
          unfold nodesC at this
          rw [List.mem_filter] at this
          exact this.2
    rw [hkf]
    have hd : ∀ x ∈ compsF rr a.length, ∃ v : Int, x[0]? = some v ∧ x.headD 0 = v := fun x hx => by
      unfold compsF at hx
      obtain ⟨v, hv, rfl⟩ := List.mem_map.1 hx
      rw [List.mem_filter, List.mem_range] at hv
      have e := eq_of_beq hv.2
      exact ⟨v, by rw [← List.head?_eq_getElem?]; exact e, by rw [List.headD_eq_head?_getD, e]; rfl⟩
    generalize compsF rr a.length = s at *
    have hnl : (toI (nodesC c a.length a.length)).length ≤ 10 := by
      unfold nodesC
      rw [List.length_map]
      have := List.length_filter_le (fun j => (List.range a.length).any (c j)) (List.range a.length)
      rw [List.length_range] at this
      omega
    generalize toI (nodesC c a.length a.length) = N at *
    have e0 : s.filter (fun x => N.any fun y => y == x.headD 0) = (s.take s.length).filter (fun x => N.any fun y => y == x.headD 0) := by rw [List.take_length]
    rw [e0]
    refine Conv_forV (n := s.length) (fun k => (s.take k).filter fun x => N.any fun y => y == x.headD 0) (by omega) fun k hk => ?_
    have e : s.take (k + 1) = s.take k ++ [s[k]] := by rw [List.take_add_one]; simp [hk]
    have hx := List.getElem?_eq_getElem hk
    obtain ⟨v, hv, hv2⟩ := hd s[k] (List.getElem_mem hk)
    have hfl := List.length_filter_le (fun x => N.any fun y => y == x.headD 0) (s.take k)
    rw [List.length_take] at hfl
    generalize s[k] = x at *
    refine M.Conv_bind (M.Conv_idx hx) (M.Conv_bind (M.Conv_idx (i := 0) hv) (M.Conv_bind (l01Has_ok (l := N) v (by omega)) (M.Conv_bind (x := (s.take (k + 1)).filter fun x => N.any fun y => y == x.headD 0) (M.Conv_ite (fun t => ?_) (fun t => ?_)) (M.Conv_ret _))))
    · refine M.Conv_bind (M.Conv_idx hx) (M.Conv_bind ((M.Conv_app (by rw [List.length_cons, List.length_nil]; omega)).of ?_) (M.Conv_ret _))
      rw [e, List.filter_append, List.filter_cons, hv2, if_pos t]; rfl
    · refine (M.Conv_ret _).of ?_
      rw [e, List.filter_append, List.filter_cons, hv2, if_neg (by rw [t]; simp)]; simp

theorem Rch.wlk {a : List (List Int)} {n j i : Nat} (hj : j < n) (h : Rch (arcE a) n j i) : ∃ k w, Wlk a n j k i w := by
  obtain ⟨k, h⟩ := h
  induction h with
  | nil k => exact ⟨0, 0, .nil hj⟩
  | step k j' i' _ hj' hi he ih =>
    obtain ⟨k', w', h'⟩ := ih
    exact ⟨k' + 1, _, .step k' j' i' w' h' hi he⟩
theorem critical_not {a : List (List Int)} (sa : smII a) (h : sqB a = false) : M.Conv (impl_criticalOf a) ([], 1) ∧ M.Conv (spec_l06Code a) 1 := by
  constructor
  · exact M.Conv_bind (impl_isSquare_ok sa) (M.Conv_ite (fun _ => M.Conv_ret _) (fun t => by rw [h] at t; cases t))
  · unfold spec_l06Code
    exact M.Conv_bind (spec_l02Square_ok sa) (M.Conv_ite (fun _ => M.Conv_ret _) (fun t => by rw [h] at t; cases t))
theorem keepF_mem {rr : Nat → Nat → Bool} {c : Nat → Nat → Bool} {n : Nat} {x : List Int} (h : x ∈ keepF rr c n) : ∃ v, v < n ∧ x = compF rr n v ∧ x.head? = some (v : Int) ∧ ∃ i, i < n ∧ c v i = true := by
  unfold keepF at h
  obtain ⟨v, hv, rfl⟩ := List.mem_map.1 h
  rw [List.mem_filter, List.mem_range, Bool.and_eq_true, List.any_eq_true] at hv
  obtain ⟨h1, h2, i, hi, hc⟩ := hv
  exact ⟨v, h1, rfl, eq_of_beq h2, i, List.mem_range.1 hi, hc⟩
theorem keepF_len {rr : Nat → Nat → Bool} {c : Nat → Nat → Bool} {n : Nat} : (keepF rr c n).length ≤ n := by
  unfold keepF
  rw [List.length_map]
  exact Nat.le_trans (List.length_filter_le _ _) (by simp)
theorem grow_nil_ok {n : Int} (h0 : 0 ≤ n) (h1 : n ≤ 1000000) : M.Conv (slices_Grow_int_nil n) [] := by
  unfold slices_Grow_int_nil
  have e0 : w64 (0 - 0) = 0 := by rw [w64_eq _ (by omega)]; rfl
  have e : w64 (n - w64 (0 - 0)) = n := by rw [e0, w64_eq _ (by omega)]; omega
  rw [e]
  refine M.Conv_bind (x := ()) (M.Conv_ite (fun t => by have := of_decide_eq_true t; omega) (fun _ => M.Conv_ret _)) (M.Conv_bind (x := []) (M.Conv_ite (fun t => ?_) (fun _ => M.Conv_ret _)) (M.Conv_ret _))
  exact M.Conv_bind (M.Conv_make h0 (by omega)) (M.Conv_bind ((M.Conv_sub (by omega) (by omega) (by omega)).of (by simp)) (M.Conv_ret _))
theorem concat_ok {L : List (List Int)} (h1 : L.length ≤ 100) (h2 : ∀ r ∈ L, r.length ≤ 100) : M.Conv (slices_Concat_int L) L.flatten := by
  have hlen : ∀ k, k ≤ L.length → (L.take k).flatten.length ≤ k * 100 := by
    intro k
    induction k with
    | zero => intro _; simp
    | succ k ih =>
      intro hk
      have e : L.take (k + 1) = L.take k ++ [L[k]] := by rw [List.take_add_one]; simp [show k < L.length by omega]
      have := h2 L[k] (List.getElem_mem (by omega))
      have := ih (by omega)
      rw [e, List.flatten_append, List.length_append]
      simp only [List.flatten_cons, List.flatten_nil, List.append_nil]
      omega
  have step : ∀ k (hk : k < L.length), (L.take (k + 1)).flatten = (L.take k).flatten ++ L[k] := fun k hk => by
    have e : L.take (k + 1) = L.take k ++ [L[k]] := by rw [List.take_add_one]; simp [hk]
    rw [e, List.flatten_append]; simp
  have hall := hlen L.length (Nat.le_refl _)
  rw [List.take_length] at hall
  unfold slices_Concat_int
  have s1 := Conv_forV (n := L.length) (f := fun i1 => (fun (s1 : Int) => M.bind (M.idx L i1) (fun x2 => M.bind (M.ite (decide ((w64 (s1 + (x2.length : Int))) < 0)) (M.fail) (M.ret ())) (fun (_ : Unit) => M.ret (.inl (w64 (s1 + (x2.length : Int)))))))) (fun k => ((L.take k).flatten.length : Int)) (by omega) fun k hk => ?_
  · refine M.Conv_bind s1 (M.Conv_bind (grow_nil_ok (by omega) (by rw [List.take_length]; omega)) (M.Conv_bind (x := L.flatten) ?_ (M.Conv_ret _)))
    have s2 := Conv_forV (n := L.length) (f := fun i2 => (fun (s3 : (List Int)) => M.bind (M.idx L i2) (fun x5 => M.bind (M.app s3 x5) (fun l1 => M.ret (.inl l1))))) (fun k => (L.take k).flatten) (by omega) fun k hk => ?_
    · rw [List.take_length] at s2; exact s2
    · have := hlen (k + 1) (by omega)
      have e := step k hk
      have hx := List.getElem?_eq_getElem hk
      rw [e, List.length_append] at this
      exact M.Conv_bind (M.Conv_idx hx) (M.Conv_bind ((M.Conv_app (by omega)).of e.symm) (M.Conv_ret _))
  · have := hlen (k + 1) (by omega)
    have e := step k hk
    have hx := List.getElem?_eq_getElem hk
    rw [e, List.length_append] at this
    have ew : w64 (((L.take k).flatten.length : Int) + (L[k].length : Int)) = ((L.take (k + 1)).flatten.length : Int) := by rw [w64_eq _ (by omega), e, List.length_append]; omega
    refine M.Conv_bind (M.Conv_idx hx) (M.Conv_bind (x := ()) (M.Conv_ite (fun t => by have := of_decide_eq_true t; rw [ew] at this; omega) (fun _ => M.Conv_ret _)) ((M.Conv_ret _).of (by rw [ew])))
theorem compF_eq {rr : Nat → Nat → Bool} {n : Nat} (H2 : ∀ u v w, u < n → v < n → w < n → rr u v = true → rr v w = true → rr u w = true) {v u : Nat} (hv : v < n) (hu : u < n) (h : rr v u = true) (h' : rr u v = true) : compF rr n v = compF rr n u := by
  unfold compF
  congr 1
  refine List.filter_congr fun w hw => ?_
  have hw := List.mem_range.1 hw
  rw [Bool.eq_iff_iff, Bool.and_eq_true, Bool.and_eq_true]
  exact ⟨fun ⟨a, b⟩ => ⟨H2 u v w hu hv hw h' a, H2 w v u hw hv hu b h⟩, fun ⟨a, b⟩ => ⟨H2 v u w hv hu hw h a, H2 w u v hw hu hv b h'⟩⟩
theorem keep_nodes {n : Nat} {rr c : Nat → Nat → Bool} (H1 : ∀ v, v < n → rr v v = true) (H2 : ∀ u v w, u < n → v < n → w < n → rr u v = true → rr v w = true → rr u w = true) (hk : ∀ v, v < n → ((∃ i, i < n ∧ c v i = true) ↔ ¬ ((compF rr n v).length = 1 ∧ c v v = false))) :
    ((keepF rr c n).flatten.mergeSort fun x y => decide (x ≤ y)) = toI (nodesC c n n) := by
  have arc : ∀ v u, v < n → u < n → rr v u = true → rr u v = true → (∃ i, i < n ∧ c v i = true) → ∃ i, i < n ∧ c u i = true := fun v u hv hu h h' ha => by
    rw [hk u hu]
    rintro ⟨h1, h2⟩
    have e := compF_eq H2 hv hu h h'
    have m1 : (v : Int) ∈ compF rr n u := compF_mem.2 ⟨v, rfl, hv, h', h⟩
    have m2 : (u : Int) ∈ compF rr n u := compF_mem.2 ⟨u, rfl, hu, H1 u hu, H1 u hu⟩
    obtain ⟨y, hy⟩ := List.length_eq_one_iff.1 h1
    rw [hy, List.mem_singleton] at m1 m2
    have : v = u := by omega
    subst this
    exact (hk v hv).1 ha ⟨h1, h2⟩
  have mem : ∀ x : Int, x ∈ (keepF rr c n).flatten ↔ x ∈ toI (nodesC c n n) := fun x => by
    rw [List.mem_flatten]
    unfold nodesC
    rw [List.mem_map]
    constructor
    · rintro ⟨l, hl, hx⟩
      obtain ⟨v, hv, rfl, _, ha⟩ := keepF_mem hl
      obtain ⟨w, rfl, hw, h1, h2⟩ := compF_mem.1 hx
      refine ⟨w, ?_, rfl⟩
      rw [List.mem_filter, List.mem_range, List.any_eq_true]
      obtain ⟨i, hi, hc⟩ := arc v w hv hw h1 h2 ha
      exact ⟨hw, i, List.mem_range.2 hi, hc⟩
    · rintro ⟨w, hw, rfl⟩
      rw [List.mem_filter, List.mem_range, List.any_eq_true] at hw
      obtain ⟨hw, i, hi, hc⟩ := hw
      have hi := List.mem_range.1 hi
      have hwm : (w : Int) ∈ compF rr n w := compF_mem.2 ⟨w, rfl, hw, H1 w hw, H1 w hw⟩
      -- the first node
      cases hh : (compF rr n w).head? with
      | none => rw [List.head?_eq_none_iff] at hh; rw [hh] at hwm; simp at hwm
      | some y =>
        obtain ⟨v, rfl, hv, h1, h2⟩ := compF_mem.1 (List.mem_of_mem_head? (by rw [hh]; rfl))
        have e := compF_eq H2 hw hv h1 h2
        refine ⟨compF rr n v, ?_, by rw [← e]; exact hwm⟩
        unfold keepF
        refine List.mem_map.2 ⟨v, ?_, rfl⟩
        rw [List.mem_filter, List.mem_range, Bool.and_eq_true, List.any_eq_true]
        obtain ⟨j, hj, hcj⟩ := arc w v hw hv h1 h2 ⟨i, hi, hc⟩
        exact ⟨hv, by rw [← e, hh]; simp, j, List.mem_range.2 hj, hcj⟩
  have nd1 : (keepF rr c n).flatten.Nodup := by
    unfold List.Nodup
    rw [List.pairwise_flatten]
    constructor
    · intro l hl
      obtain ⟨v, _, rfl, _⟩ := keepF_mem hl
      unfold compF
      rw [List.pairwise_map]
      exact (List.nodup_range.filter _).imp fun h e => h (by omega)
    · unfold keepF
      rw [List.pairwise_map, List.pairwise_filter]
      refine (List.pairwise_lt_range (n := n)).imp_of_mem fun {v u} hv hu hlt h1 h2 x hx y hy e => ?_
      subst e
      have hv := List.mem_range.1 hv
      have hu := List.mem_range.1 hu
      rw [Bool.and_eq_true] at h1 h2
      obtain ⟨w, rfl, hw, a1, a2⟩ := compF_mem.1 hx
      obtain ⟨w', e', hw', b1, b2⟩ := compF_mem.1 hy
      have : w = w' := by omega
      subst this
      have e := compF_eq H2 hv hu (H2 v w u hv hw hu a1 b2) (H2 u w v hu hw hv b1 a2)
      have q1 := eq_of_beq h1.1
      have q2 := eq_of_beq h2.1
      rw [e, q2] at q1
      simp at q1
      omega
  have sorted2 : List.Pairwise (fun x y : Int => x ≤ y) (toI (nodesC c n n)) := by
    unfold nodesC
    rw [List.pairwise_map]
    exact ((List.pairwise_lt_range (n := n)).filter _).imp fun h => by omega
  have nd2 : (toI (nodesC c n n)).Nodup := by
    unfold nodesC List.Nodup
    rw [List.pairwise_map]
    exact ((List.pairwise_lt_range (n := n)).filter _).imp fun h e => by omega
  have perm : ((keepF rr c n).flatten.mergeSort fun x y => decide (x ≤ y)).Perm (toI (nodesC c n n)) := (List.mergeSort_perm _ _).trans ((List.perm_ext_iff_of_nodup nd1 nd2).2 mem)
  have sorted1 := List.pairwise_mergeSort (le := fun x y : Int => decide (x ≤ y)) (fun a b c h1 h2 => by simp at *; omega) (fun a b => by simp; omega) (keepF rr c n).flatten
  refine List.Perm.eq_of_pairwise (le := fun x y : Int => x ≤ y) (fun a b _ _ h1 h2 => by omega) (sorted1.imp fun h => of_decide_eq_true h) sorted2 perm
theorem nodes_Two (a : List (List Int)) (sa : smII a) : Two (spec_CriticalNodes a) (impl_CriticalNodes a) (fun w => w.1.length ≤ 10 ∧ (w.2 = 0 → sqB a = true ∧ ∃ l W r S, CritP a l W r S ∧ w.1 = toI (nodesC (critB (matF a.length a.length (shF a r.Den r.Num)) S) a.length a.length))) := by
  unfold spec_CriticalNodes impl_CriticalNodes
  cases hq : sqB a with
  | false =>
    obtain ⟨k1, k2⟩ := critical_not sa hq
    exact ⟨([], 1), M.Conv_bind k2 (M.Conv_ite (fun _ => M.Conv_ret _) (fun t => by cases t)), M.Conv_bind k1 (M.Conv_ite (fun _ => M.Conv_ret _) (fun t => by cases t)), by simp⟩
  | true =>
    have hm := sq_mat hq
    have hrows := hm.rows
    obtain ⟨w, c1, h⟩ := critical_both sa hq
    rcases h with ⟨hw, _, c2⟩ | ⟨hw, c2, c3, l, W, r, S, hC, ew, c4⟩
    · exact ⟨([], 4), M.Conv_bind c2 (M.Conv_ite (fun _ => M.Conv_ret _) (fun t => by cases t)), M.Conv_bind c1 (M.Conv_ite (fun _ => (M.Conv_ret _).of (by rw [hw])) (fun t => by rw [hw] at t; cases t)), by simp⟩
    · have hnodes := nodes_conv (by omega) c4
      rw [ew] at c3
      obtain ⟨rr, k1, k2, k3⟩ := lcomps_both hm hC c3 c4
      have hkeep := fun v hv => hC.keep hm k1 (v := v) hv
      have H1 : ∀ v, v < a.length → rr v v = true := fun v hv => (k1 v v hv hv).2 (.refl _ _ _)
      have H2 : ∀ u v w, u < a.length → v < a.length → w < a.length → rr u v = true → rr v w = true → rr u w = true := fun u v w hu hv hw h1 h2 => (k1 u w hu hw).2 (((k1 u v hu hv).1 h1).trans ((k1 v w hv hw).1 h2))
      have hkn := keep_nodes H1 H2 hkeep
      have hkl := keepF_len (rr := rr) (c := critB (matF a.length a.length (shF a r.Den r.Num)) S) (n := a.length)
      have hrl : ∀ x ∈ keepF rr (critB (matF a.length a.length (shF a r.Den r.Num)) S) a.length, x.length ≤ 100 := fun x hx => by
        obtain ⟨v, _, rfl, _⟩ := keepF_mem hx
        have := compF_len (r := rr) (n := a.length) (v := v)
        omega
      have hcc := concat_ok (by omega) hrl
      have hnl : (toI (nodesC (critB (matF a.length a.length (shF a r.Den r.Num)) S) a.length a.length)).length ≤ 10 := by
        unfold nodesC
        rw [List.length_map]
        have := List.length_filter_le (fun j => (List.range a.length).any (critB (matF a.length a.length (shF a r.Den r.Num)) S j)) (List.range a.length)
        rw [List.length_range] at this
        omega
      have hsort : M.Conv (slices_Sort_int (keepF rr (critB (matF a.length a.length (shF a r.Den r.Num)) S) a.length).flatten) (toI (nodesC (critB (matF a.length a.length (shF a r.Den r.Num)) S) a.length a.length)) := by
        unfold slices_Sort_int
        have hl : (keepF rr (critB (matF a.length a.length (shF a r.Den r.Num)) S) a.length).flatten.length ≤ 10 := by
          rw [← hkn, List.length_mergeSort] at hnl; exact hnl
        rw [hkn]
        exact M.Conv_bind (M.Conv_guard (decide_eq_true (by omega))) (M.Conv_ret _)
      refine ⟨(toI (nodesC (critB (matF a.length a.length (shF a r.Den r.Num)) S) a.length a.length), 0), M.Conv_bind c2 (M.Conv_ite (fun t => by cases t) (fun _ => M.Conv_bind hnodes (M.Conv_ret _))), M.Conv_bind c1 (M.Conv_ite (fun t => by rw [hw] at t; cases t) (fun _ => M.Conv_bind (by rw [ew]; exact k2) (M.Conv_bind hcc (M.Conv_bind hsort (M.Conv_ret _))))), hnl, fun _ => ⟨rfl, l, W, r, S, hC, rfl⟩⟩
theorem NoPos.le0 {a : List (List Int)} {n : Nat} (hp : NoPos a n) {j k : Nat} {w : Int} (h : Wlk a n j k j w) : w ≤ 0 := by
  cases k with
  | zero => cases h; omega
  | succ k => exact hp.closed h
section
variable {a : List (List Int)} {l : List Nat} {W : Int} {r : TRatio} {S : List (List Int)}
end

theorem Wlk.first {a : List (List Int)} {n v m x : Nat} {w : Int} (h : Wlk a n v (m + 1) x w) : ∃ i, i < n ∧ arcE a v i := by
  rw [Nat.add_comm] at h
  obtain ⟨y, w1, w2, h1, _, _⟩ := h.split 1 m
  cases h1 with
  | step _ i1 _ w0 hw hi ha =>
    cases hw with
    | nil _ => exact ⟨y, hi, ha⟩
theorem entA_in {a : List (List Int)} (h : MatS a) (i j : Nat) : inI64 (entA a i j) := by
  unfold entA
  cases e : a[i]? with
  | none => simp [inI64]
  | some r =>
    simp only [Option.getD_some]
    cases e2 : r[j]? with
    | none => simp [inI64]
    | some x => exact (h.row r (List.mem_of_getElem? e)).2 x (List.mem_of_getElem? e2)
theorem draw4_ok {code : List Int} (hc : ByC code) {s : TL01source} (hs : Src code s) : M.TC (spec_l04Draw s) (fun r => MatS r.1 ∧ Src code r.2) := by
  unfold spec_l04Draw
  rw [hs.code_]
  refine M.TC_bind (drawSquare_ok hc hs) fun x hx => M.TC_bind (next_ok hc (hx.2.mk' rfl) 30 (by omega)) fun y hy => M.TC_ite (fun _ => ?_) (fun _ => M.TC_ret ⟨hx.1, hy.1.mk' rfl⟩)
  refine M.TC_bind (pick_ok hc (hy.1.mk' rfl) _ (by simp) (by simp) inI64 (by simp [inI64])) fun z hz => M.TC_bind (pick_ok hc (hz.1.mk' rfl) _ (by simp) (by simp) inI64 (by simp [inI64])) fun q hq => M.TC_ret ⟨⟨by simp, fun r hr => ?_⟩, hq.1.mk' rfl⟩
  simp only [List.mem_cons, List.not_mem_nil, or_false] at hr
  rcases hr with rfl | rfl
  · exact ⟨by simp, fun v hv => by
      simp only [List.mem_cons, List.not_mem_nil, or_false] at hv
      rcases hv with rfl | rfl
      · simp [inI64]
      · exact hz.2⟩
  · exact ⟨by simp, fun v hv => by
      simp only [List.mem_cons, List.not_mem_nil, or_false] at hv
      rcases hv with rfl | rfl
      · exact hq.2
      · simp [inI64]⟩
theorem draw6_ok {code : List Int} (hc : ByC code) {s : TL01source} (hs : Src code s) : M.TC (spec_l06Draw s) (fun r => MatS r.1 ∧ Src code r.2) := by
  unfold spec_l06Draw
  rw [hs.code_]
  refine M.TC_bind (draw4_ok hc hs) fun x hx => ?_
  obtain ⟨hm, hx⟩ := hx
  refine M.TC_bind (Mid := fun (r : Int × Int × Bool) => Src code ⟨code, r.1, r.2.1⟩ ∧ (r.2.2 = false → sqB x.1 = true)) (M.TC_bindC (spec_l02Square_ok hm.sm) (M.TC_ite (fun _ => M.TC_ret ⟨hx.mk' rfl, fun t => by cases t⟩) (fun t => M.TC_bind (next_ok hc (hx.mk' rfl) 3 (by omega)) fun y hy => M.TC_ret ⟨hy.1.mk' rfl, fun _ => by simpa using t⟩))) fun r hr => ?_
  obtain ⟨h1, h2⟩ := hr
  refine M.TC_ite (fun _ => M.TC_ret ⟨hm, h1⟩) (fun t => ?_)
  have hq := h2 t
  have hM := sq_mat hq
  have hrows := hM.rows
  generalize hn : x.1.length = n at *
  have hx1 : x.1 = matF n n (entA x.1) := by
    have := mat_eq hM.shp
    rw [hn] at this; exact this
  refine M.TC_bind (M.TC_forN (fun i (s : Int × Int × List Int) => Src code ⟨code, s.1, s.2.1⟩ ∧ s.2.2.length = i) (by omega) ⟨h1, rfl⟩ (fun i s hi hI => M.TC_bind (next_ok hc hI.1 6 (by omega)) fun z hz => M.TC_bindC (M.Conv_app (by simp; have := hI.2; omega)) (M.TC_ret ⟨_, rfl, hz.1.mk' rfl, by simp [hI.2]⟩))) fun s4 hs4 => ?_
  obtain ⟨h3, h4⟩ := hs4
  refine M.TC_bind (next_ok hc h3 7 (by omega)) fun u hu => ?_
  refine M.TC_bind (M.TC_forN (fun _ (r : Int × Int × List (List Int)) => Src code ⟨code, r.1, r.2.1⟩ ∧ ∃ f, r.2.2 = matF n n f ∧ ∀ i j, inI64 (f i j)) (by omega) ⟨hu.1.mk' rfl, _, hx1, entA_in hm⟩ (fun i r hi hI => ?_)) fun r hr => ?_
  · refine M.TC_bind (M.TC_forN (fun _ (r : Int × Int × List (List Int)) => Src code ⟨code, r.1, r.2.1⟩ ∧ ∃ f, r.2.2 = matF n n f ∧ ∀ i j, inI64 (f i j)) (by omega) hI (fun j r hj hI => ?_)) fun r hr => M.TC_ret ⟨_, rfl, hr⟩
    obtain ⟨hsr, f, hf, hfi⟩ := hI
    rw [hf]
    have r1 : M.Conv (M.idx (matF n n f) (i : Int)) (tab n (f i)) := idx_tab hi
    have r2 : M.Conv (M.idx (tab n (f i)) (j : Int)) (f i j) := idx_tab hj
    refine M.TC_bindC r1 (M.TC_bindC r2 (M.TC_bindC (spec_l01Finite_ok _) ?_))
    refine M.TC_bind (Mid := fun _ => True) (M.TC_ite (fun _ => M.TC_bindC r1 (M.TC_bindC r2 (M.TC_bindC (spec_l01In_ok _ _ _) (M.TC_ret trivial)))) (fun _ => M.TC_ret trivial)) fun b _ => ?_
    refine M.TC_bind (Mid := fun (r : Int × Int × List (List Int)) => Src code ⟨code, r.1, r.2.1⟩ ∧ ∃ f, r.2.2 = matF n n f ∧ ∀ i j, inI64 (f i j)) (M.TC_ite (fun _ => ?_) (fun _ => M.TC_ret ⟨hsr, f, rfl, hfi⟩)) fun r hr => M.TC_ret ⟨_, rfl, hr⟩
    refine M.TC_bindC r1 (M.TC_bind (Mid := fun _ => True) (M.TC_idx (by omega) (by omega) fun _ _ => trivial) fun p _ => M.TC_bind (Mid := fun _ => True) (M.TC_idx (by omega) (by omega) fun _ _ => trivial) fun q _ => M.TC_bind (next_ok hc hsr 5 (by omega)) fun y hy => M.TC_bindC r2 (M.TC_bindC (M.Conv_upd (by rw [tab_len]; exact hj)) ?_))
    generalize hv : w64 (w64 (w64 (p - q) + w64 (u.1 - 2)) - mx 0 (w64 (y.1 - 2))) = v
    have hvi : inI64 v := by rw [← hv]; exact w64_bd _
    refine M.TC_ret ⟨hy.1.mk' rfl, fun p q => if p = i ∧ q = j then v else f p q, ?_, fun p q => ?_⟩
    · simp only [Int.toNat_natCast]
      have := matF_set (m := n) (n := n) (i := i) (j := j) (f := f) (g := fun p q => if p = i ∧ q = j then v else f p q) (fun p q _ _ hpq => by rw [if_neg hpq])
      simpa using this
    · simp only
      split
      · exact hvi
      · exact hfi p q
  · obtain ⟨hsr, f, hf, hfi⟩ := hr
    exact M.TC_ret ⟨by rw [hf]; exact MatS.of (by omega) (by omega) hfi, hsr⟩
def GoodC (a : List (List Int)) (n : Nat) (c : List Int) (W : Int) : Prop := ∃ l : List Nat, c = toI l ∧ l.Nodup ∧ Cl a n l W
theorem GoodC.unique {a : List (List Int)} {n : Nat} {c : List Int} {W W' : Int} (h : GoodC a n c W) (h' : GoodC a n c W') : W = W' := by
  obtain ⟨l, rfl, _, h⟩ := h
  obtain ⟨l', e, _, h'⟩ := h'
  have := toI_inj e
  subst this
  exact h.unique h'
def pv (c : List Int) (k : Nat) : Int := nd c (if k = 0 then c.length - 1 else k - 1)
theorem nd_toI {l : List Nat} {k : Nat} (h : k < l.length) : nd (toI l) k = (pf l k : Int) := by
  unfold nd pf
  rw [List.getElem?_map, List.getElem?_eq_getElem h]; rfl
theorem take_pf {l : List Nat} {k : Nat} (h : k < l.length) : l.take (k + 1) = l.take k ++ [pf l k] := by
  rw [List.take_add_one]
  simp [pf, h]
theorem split_pf {l : List Nat} {q : Nat} (h : q + 1 < l.length) : l = l.take q ++ pf l q :: pf l (q + 1) :: l.drop (q + 1 + 1) := by
  have := (List.take_append_drop (q + 1 + 1) l).symm
  rw [take_pf h, take_pf (by omega)] at this
  simpa using this
theorem nodup_pf {l : List Nat} (hn : l.Nodup) {k : Nat} (hk : k < l.length) : ∀ x ∈ l.take k, x ≠ pf l k := by
  intro x hx e
  obtain ⟨t, ht, et⟩ := List.getElem_of_mem hx
  rw [List.length_take] at ht
  rw [List.getElem_take] at et
  have hp := List.pairwise_iff_getElem.1 hn t k (by omega) hk (by omega)
  exact hp (by rw [et, e]; simp [pf, hk])
theorem GoodC.at {a : List (List Int)} {n : Nat} {c : List Int} {W : Int} (hg : GoodC a n c W) {k : Nat} (hk : k < c.length) : ∃ u p : Nat, nd c k = u ∧ u < n ∧ pv c k = p ∧ p < n ∧ (∀ x ∈ c.take k, x ≠ (u : Int)) ∧ entA a u p ≠ -1000000000000000 := by
  obtain ⟨l, rfl, hn, hc⟩ := hg
  have hlt := hc.lt
  obtain ⟨h, r, e, hw⟩ := hc
  rw [List.length_map] at hk
  have hL : (toI l).length = l.length := List.length_map _
  have h0 : pf l 0 = h := by rw [e]; rfl
  have dup : ∀ x ∈ (toI l).take k, x ≠ (pf l k : Int) := fun x hx he => by
    rw [← List.map_take] at hx
    obtain ⟨y, hy, rfl⟩ := List.mem_map.1 hx
    exact nodup_pf hn hk y hy (by omega)
  cases k with
  | zero =>
    have hl1 : l.length - 1 < l.length := by omega
    have el : l = l.take (l.length - 1) ++ [pf l (l.length - 1)] := by
      have := take_pf hl1
      rw [show l.length - 1 + 1 = l.length by omega, List.take_length] at this
      exact this
    refine ⟨pf l 0, pf l (l.length - 1), nd_toI hk, hlt _ (pf_mem hk), ?_, hlt _ (pf_mem hl1), dup, ?_⟩
    · unfold pv; rw [if_pos rfl, hL, nd_toI hl1]
    · rw [h0]
      generalize pf l (l.length - 1) = p at el
      rw [el, List.append_assoc] at hw
      exact hw.arc
  | succ q =>
    refine ⟨pf l (q + 1), pf l q, nd_toI hk, hlt _ (pf_mem hk), ?_, hlt _ (pf_mem (by omega)), dup, ?_⟩
    · unfold pv; rw [if_neg (by omega), Nat.add_sub_cancel, nd_toI (by omega)]
    · rw [split_pf hk] at hw
      simp only [List.append_assoc, List.cons_append] at hw
      generalize pf l (q + 1) = v at hw ⊢
      generalize pf l q = u at hw ⊢
      exact hw.arc
theorem GoodC.len {a : List (List Int)} {n : Nat} {c : List Int} {W : Int} (hg : GoodC a n c W) : 1 ≤ c.length ∧ c.length ≤ n := by
  obtain ⟨l, rfl, hn, hc⟩ := hg
  have := nodup_lt n l hn hc.lt
  obtain ⟨h, r, e, _⟩ := hc
  rw [List.length_map]
  exact ⟨by rw [e]; simp, this⟩
theorem take_nd {c : List Int} {k : Nat} (h : k < c.length) : c.take (k + 1) = c.take k ++ [nd c k] := by
  rw [List.take_add_one]
  simp [nd, h]
theorem isNode_ok {a : List (List Int)} (hl : 1 ≤ a.length ∧ a.length ≤ 10) (x : Int) : M.Conv (impl_isNode a x) (decide (0 ≤ x) && decide (x ≤ (a.length : Int) - 1)) := by
  unfold impl_isNode
  rw [w64_eq _ (by omega)]
  exact M.Conv_bind (impl_within_ok _ _ _) (M.Conv_ret _)
def CycP (a : List (List Int)) (n : Nat) (c : List Int) (w : Int × Bool) : Prop := (w = (0, false) ∧ ¬ ∃ W, GoodC a n c W) ∨ ∃ W, w = (W, true) ∧ GoodC a n c W
theorem CycP.unique {a : List (List Int)} {n : Nat} {c : List Int} {w w' : Int × Bool} (h : CycP a n c w) (h' : CycP a n c w') : w = w' := by
  rcases h with ⟨rfl, h⟩ | ⟨W, rfl, h⟩
  · rcases h' with ⟨rfl, _⟩ | ⟨W', rfl, h'⟩
    · rfl
    · exact absurd ⟨_, h'⟩ h
  · rcases h' with ⟨rfl, h'⟩ | ⟨W', rfl, h'⟩
    · exact absurd ⟨_, h⟩ h'
    · rw [h.unique h']
/-- a chain that ends where it began, as a cycle -/
theorem good_of {a : List (List Int)} {n : Nat} {l : List Nat} {p0 : Nat} {W : Int} (hn : l.Nodup) (hl : 1 ≤ l.length) (hp : pf l (l.length - 1) = p0) (h : Chn a n (p0 :: l) W) : GoodC a n (toI l) W := by
  refine ⟨l, rfl, hn, ?_⟩
  have el : l = l.take (l.length - 1) ++ [p0] := by
    have := take_pf (show l.length - 1 < l.length by omega)
    rw [show l.length - 1 + 1 = l.length by omega, List.take_length, hp] at this
    exact this
  cases l with
  | nil => simp at hl
  | cons u r =>
    refine ⟨u, r, rfl, ?_⟩
    cases h with
    | cons _ _ _ w hu ha h =>
      have hu' := h.lt u (by simp)
      generalize (u :: r).take ((u :: r).length - 1) = x at el
      rw [el] at h
      have := h.snoc hu' ha
      rw [← el, Int.add_comm] at this
      exact this
theorem cycleWeight_tc {a : List (List Int)} (hs : Shp a a.length) (hB : Ent a a.length 1000000) {c : List Int} (hcl : c.length ≤ 1000) : M.TC (impl_cycleWeight a c) (CycP a a.length c) := by
  have hrows := hs.rows
  unfold impl_cycleWeight
  refine M.TC_ite (fun t => M.TC_ret (.inl ⟨rfl, fun ⟨W, hg⟩ => ?_⟩)) (fun t => ?_)
  · have := hg.len; have t := eq_of_beq t; omega
  have hL : 1 ≤ c.length := by
    have t : (c.length : Int) ≠ 0 := by simpa using t
    omega
  have ew : w64 ((c.length : Int) - 1) = ((c.length - 1 : Nat) : Int) := by rw [w64_eq _ (by omega)]; omega
  rw [ew]
  refine M.TC_bindC (nd_read (by omega)) ?_
  refine M.TC_bind (M.TC_forE (n := c.length) (fun k (s : Int × Int) => ∃ l' : List Nat, c.take k = toI l' ∧ l'.Nodup ∧ s.2 = pv c k ∧ (k = 0 ∧ s.1 = 0 ∨ ∃ p0 : Nat, pv c 0 = p0 ∧ Chn a a.length (p0 :: l') s.1)) (fun r => r = (0, false) ∧ ¬ ∃ W, GoodC a a.length c W) (by omega) ⟨[], by simp, by simp, by unfold pv; rw [if_pos rfl], .inl ⟨rfl, rfl⟩⟩ (fun k s hk hI => ?_)) (fun y hy => ?_)
  · obtain ⟨l', i1, i2, i3, i4⟩ := hI
    have hll : l'.length = k := by
      have := congrArg List.length i1
      rw [List.length_take, List.length_map] at this
      omega
    have etk : (c.drop (0 : Int).toNat).take (((k : Int)).toNat - (0 : Int).toNat) = c.take k := by simp
    have hg := fun {W : Int} (g : GoodC a a.length c W) => g.at hk
    refine M.TC_bindC (nd_read hk) (M.TC_bindC (isNode_ok hrows _) (M.TC_bindC (Conv_or fun _ => M.Conv_bind (isNode_ok hrows _) (M.Conv_ret _)) (M.TC_bindC (Conv_or (v := (c.take k).any fun x => nd c k == x) fun _ => M.Conv_bind (M.Conv_sub (by omega) (by omega) (by omega)) (M.Conv_bind (contains_neg (by simp; omega) _) ((M.Conv_ret _).of (by rw [etk])))) ?_)))
    rw [i3]
    cases h7 : ((!(decide (0 ≤ nd c k) && decide (nd c k ≤ (a.length : Int) - 1))) || (!(decide (0 ≤ pv c k) && decide (pv c k ≤ (a.length : Int) - 1)))) || ((c.take k).any fun x => nd c k == x) with
    | true =>
      refine M.TC_bindC (x := true) (M.Conv_ite (fun _ => M.Conv_ret _) (fun t => by cases t)) (M.TC_ite (fun _ => M.TC_ret (.inr ⟨_, rfl, rfl, fun ⟨W, g⟩ => ?_⟩)) (fun t => by cases t))
      obtain ⟨u, p, g1, g2, g3, g4, g5, g6⟩ := hg g
      rw [g1, g3] at h7
      simp only [Bool.or_eq_true, Bool.not_eq_true', Bool.and_eq_false_iff, decide_eq_false_iff_not, List.any_eq_true, beq_iff_eq] at h7
      rcases h7 with (h7 | h7) | ⟨x, hx, h7⟩
      · omega
      · omega
      · exact g5 x hx h7.symm
    | false =>
      simp only [Bool.or_eq_false_iff, Bool.not_eq_false', Bool.and_eq_true, decide_eq_true_eq, List.any_eq_false, beq_iff_eq] at h7
      obtain ⟨⟨h1, h2⟩, h3⟩ := h7
      obtain ⟨u, eu⟩ : ∃ u : Nat, nd c k = u := ⟨(nd c k).toNat, by omega⟩
      obtain ⟨p, ep⟩ : ∃ p : Nat, pv c k = p := ⟨(pv c k).toNat, by omega⟩
      rw [eu] at h1 h3 ⊢
      rw [ep] at h2 i3 ⊢
      have hu : u < a.length := by omega
      have hp : p < a.length := by omega
      have hrl := hs.row _ (List.mem_of_getElem? (rowN_get (a := a) (i := u) hu))
      have rd := nd_read (l := rowN a u) (i := p) (by omega)
      rw [nd_row hu] at rd
      have r1 : M.Conv (M.idx a (u : Int)) (rowN a u) := get_row (rowN_get hu)
      refine M.TC_bindC (x := entA a u p == (-1000000000000000)) (M.Conv_ite (fun t => by cases t) (fun _ => M.Conv_bind r1 (M.Conv_bind rd (M.Conv_ret _)))) (M.TC_ite (fun t => M.TC_ret (.inr ⟨_, rfl, rfl, fun ⟨W, g⟩ => ?_⟩)) (fun t => M.TC_bindC r1 (M.TC_bindC rd (M.TC_ret (.inl ⟨_, rfl, l' ++ [u], ?_, ?_, ?_, .inr ?_⟩)))))
      · obtain ⟨u', p', g1, _, g3, _, _, g6⟩ := hg g
        have e1 : u' = u := by omega
        have e2 : p' = p := by omega
        rw [e1, e2] at g6
        exact g6 (eq_of_beq t)
      · rw [take_nd hk, i1, eu]; simp
      · rw [List.nodup_append]
        refine ⟨i2, by simp, fun x hx y hy e => ?_⟩
        rw [List.mem_singleton] at hy
        subst hy; subst e
        exact h3 (x : Int) (by rw [i1]; exact List.mem_map.2 ⟨x, hx, rfl⟩) rfl
      · unfold pv
        rw [if_neg (by omega), Nat.add_sub_cancel, eu]
      · have ha : entA a u p ≠ -1000000000000000 := by simpa using t
        have hb := (hB u p hu hp).resolve_left ha
        rcases i4 with ⟨rfl, i4⟩ | ⟨p0, q1, q2⟩
        · refine ⟨p, ep, ?_⟩
          have el : l' = [] := List.eq_nil_of_length_eq_zero hll
          rw [el, i4]
          have := Chn.cons p u [] 0 hp ha (.one u hu)
          rw [show w64 (0 + entA a u p) = entA a u p + 0 by rw [w64_eq _ (by omega)]; omega]
          exact this
        · refine ⟨p0, q1, ?_⟩
          have hb2 := q2.bd1 hB (by omega)
          have hlen : (p0 :: l').length ≤ 1001 := by simp; omega
          rw [w64_eq _ (by omega)]
          -- the chain's last node is p
          have last : ∃ x, p0 :: l' = x ++ [p] := by
            cases k with
            | zero =>
              have el : l' = [] := List.eq_nil_of_length_eq_zero hll
              have : p = p0 := by omega
              exact ⟨[], by rw [el, this]; rfl⟩
            | succ q =>
              refine ⟨p0 :: l'.take q, ?_⟩
              have e1 := take_pf (l := l') (k := q) (by omega)
              rw [← hll, List.take_length] at e1
              have e2 : pv c (q + 1) = (pf l' q : Int) := by
                unfold pv
                rw [if_neg (by omega), Nat.add_sub_cancel, ← nd_toI (by omega), ← i1]
                unfold nd
                rw [List.getElem?_take]
                simp
              have e3 : pf l' q = p := by omega
              rw [e3] at e1
              rw [List.cons_append, ← e1]
          obtain ⟨x, ex⟩ := last
          rw [ex] at q2
          have := q2.snoc hu ha
          rw [← ex] at this
          exact this
  · rcases hy with ⟨s, rfl, l', i1, i2, i3, i4⟩ | ⟨r, rfl, h1, h2⟩
    · refine M.TC_ret (.inr ⟨_, rfl, ?_⟩)
      rw [List.take_length] at i1
      have hll : l'.length = c.length := by rw [i1, List.length_map]
      obtain ⟨p0, q1, q2⟩ := i4.resolve_left fun q => by omega
      rw [i1]
      refine good_of i2 (by omega) ?_ q2
      have : pv c 0 = (pf l' (l'.length - 1) : Int) := by
        unfold pv
        rw [if_pos rfl, i1, List.length_map, nd_toI (by omega)]
      omega
    · exact M.TC_ret (.inl ⟨h1, h2⟩)

theorem within_tc {c : List Int} {n : Nat} (hcl : c.length ≤ 1000) (hn : 1 ≤ n ∧ n ≤ 10) : M.TC (spec_l01Within c (c.length : Int) 0 (w64 ((n : Int) - 1))) (fun b => (b = true ∧ ∃ l : List Nat, c = toI l ∧ ∀ x ∈ l, x < n) ∨ (b = false ∧ ∃ k, k < c.length ∧ ¬ (0 ≤ nd c k ∧ nd c k < (n : Int)))) := by
  unfold spec_l01Within
  have ew : w64 ((n : Int) - 1) = (n : Int) - 1 := w64_eq _ (by omega)
  rw [ew]
  refine M.TC_bind (M.TC_forE (n := c.length) (fun k (_ : Unit) => ∀ x ∈ c.take k, 0 ≤ x ∧ x < (n : Int)) (fun (r : Bool) => r = false ∧ ∃ k, k < c.length ∧ ¬ (0 ≤ nd c k ∧ nd c k < (n : Int))) (by omega) (by simp) (fun i s hi hI => ?_)) fun y hy => ?_
  · refine M.TC_bindC (nd_read hi) (M.TC_bindC (spec_l01In_ok _ _ _) (M.TC_ite (fun t => M.TC_ret (.inr ⟨_, rfl, rfl, i, hi, ?_⟩)) (fun t => M.TC_ret (.inl ⟨_, rfl, fun x hx => ?_⟩))))
    · simp at t; omega
    · rw [take_nd hi, List.mem_append, List.mem_singleton] at hx
      rcases hx with hx | rfl
      · exact hI x hx
      · simp at t; omega
  · rcases hy with ⟨s, rfl, h⟩ | ⟨r, rfl, h1, h2⟩
    · refine M.TC_ret (.inl ⟨by simp, c.map Int.toNat, ?_, ?_⟩)
      · rw [List.take_length] at h
        show c = (c.map Int.toNat).map (fun (x : Nat) => (x : Int))
        rw [List.map_map]
        refine (List.map_id c).symm.trans (List.map_congr_left fun x hx => ?_)
        have := h x hx
        simp only [id, Function.comp]
        omega
      · rw [List.take_length] at h
        intro x hx
        obtain ⟨y, hy, rfl⟩ := List.mem_map.1 hx
        have := h y hy
        omega
    · exact M.TC_ret (.inr ⟨h1, h2⟩)
theorem walk_tc2 {a : List (List Int)} {n : Nat} (hs : Shp a n) (al : a.length = n) (hB : Ent a n 1000000) {l : List Nat} (hlt : ∀ x ∈ l, x < n) (hl : 1 ≤ l.length ∧ l.length ≤ 11) : M.TC (spec_l03Walk a (toI l)) (fun w => (w = (0, false) ∧ ¬ ∃ W, Chn a n l W) ∨ ∃ W, w = (W, true) ∧ Chn a n l W) := by
  unfold spec_l03Walk
  have hlen : (toI l).length = l.length := by simp
  refine M.TC_bind (M.TC_for (Post := fun (y : Int ⊕ (Int × Bool)) => (∃ W, y = .inl W ∧ Chn a n l W) ∨ (y = .inr (0, false) ∧ ¬ ∃ W, Chn a n l W)) (fun i s => ∃ k : Nat, i = k ∧ 1 ≤ k ∧ k ≤ l.length ∧ Chn a n (l.take k) s) 0 (by omega) (by omega) ⟨1, rfl, by omega, by omega, ?_⟩ (fun i s h1 h2 hI => ?_) (fun i s hi hI => ?_)) fun y hy => ?_
  · cases l with
    | nil => simp at hl
    | cons v r => exact .one v (hlt v (by simp))
  · obtain ⟨k, rfl, k1, k2, hc⟩ := hI
    rw [hlen] at h2
    have hk : k < l.length := by omega
    obtain ⟨q, rfl⟩ : ∃ q, k = q + 1 := ⟨k - 1, by omega⟩
    have e1 : l.take (q + 1) = l.take q ++ [pf l q] := take_pf (by omega)
    have e2 : l.take (q + 1 + 1) = l.take q ++ [pf l q] ++ [pf l (q + 1)] := by rw [take_pf hk, e1]
    have e3 := split_pf hk
    have hu : pf l q < n := hlt _ (pf_mem (by omega))
    have hv : pf l (q + 1) < n := hlt _ (pf_mem hk)
    have hcb := hc.bd1 hB (by omega)
    have hlt2 : (l.take (q + 1)).length ≤ 11 := by rw [List.length_take]; omega
    have ew : w64 (((q + 1 : Nat) : Int) - 1) = (q : Int) := by rw [w64_eq _ (by omega)]; omega
    rw [ew]
    have hrl := hs.row _ (List.mem_of_getElem? (rowN_get (a := a) (i := pf l (q + 1)) (by omega)))
    have rd := nd_read (l := rowN a (pf l (q + 1))) (i := pf l q) (by omega)
    rw [nd_row (by omega)] at rd
    refine M.TC_bindC (toI_read hk) (M.TC_bindC (get_row (rowN_get (by omega))) (M.TC_bindC (toI_read (by omega)) (M.TC_bindC rd (M.TC_ite (fun t => M.TC_ret (.inr ⟨_, rfl, .inr ⟨rfl, fun ⟨W, h⟩ => ?_⟩⟩)) (fun t => M.TC_ret (.inl ⟨_, rfl, q + 1 + 1, by omega, by omega, by omega, ?_⟩))))))
    · rw [e3] at h
      have := eq_of_beq t
      generalize pf l (q + 1) = v at h this
      generalize pf l q = u at h this
      exact h.arc this
    · have ha : entA a (pf l (q + 1)) (pf l q) ≠ -1000000000000000 := by simpa using t
      have hb := (hB _ _ hv hu).resolve_left ha
      rw [w64_eq _ (by omega), e2]
      rw [e1] at hc
      exact hc.snoc hv ha
  · obtain ⟨k, rfl, k1, k2, hc⟩ := hI
    have : k = l.length := by omega
    rw [this, List.take_of_length_le (Nat.le_refl _)] at hc
    exact .inl ⟨s, rfl, hc⟩
  · rcases hy with ⟨W, rfl, h⟩ | ⟨rfl, h⟩
    · exact M.TC_ret (.inr ⟨W, rfl, h⟩)
    · exact M.TC_ret (.inl ⟨rfl, h⟩)
theorem l03Cycle_tc {a : List (List Int)} (hs : Shp a a.length) (hB : Ent a a.length 1000000) {c : List Int} (hcl : c.length ≤ 1000) : M.TC (spec_l03Cycle a c) (CycP a a.length c) := by
  have hrows := hs.rows
  unfold spec_l03Cycle
  refine M.TC_bind (Mid := fun b => (b = true ∧ ¬ ∃ W, GoodC a a.length c W) ∨ (b = false ∧ 1 ≤ c.length ∧ ∃ l : List Nat, c = toI l ∧ ∀ x ∈ l, x < a.length)) (M.TC_ite (fun t => M.TC_ret (.inl ⟨rfl, fun ⟨W, hg⟩ => ?_⟩)) (fun t => ?_)) fun b hb => ?_
  · have := hg.len; have t := eq_of_beq t; omega
  · have hL : 1 ≤ c.length := by
      have t : (c.length : Int) ≠ 0 := by simpa using t
      omega
    unfold spec_l03Nodes
    refine M.TC_bind (M.TC_bind (within_tc hcl hrows) fun b hb => M.TC_ret hb) fun b hb => M.TC_ret ?_
    rcases hb with ⟨rfl, h⟩ | ⟨rfl, k, hk, h⟩
    · exact .inr ⟨rfl, hL, h⟩
    · refine .inl ⟨rfl, fun ⟨W, g⟩ => ?_⟩
      obtain ⟨u, _, g1, g2, _⟩ := g.at hk
      omega
  · rcases hb with ⟨rfl, hno⟩ | ⟨rfl, hL, l, rfl, hlt⟩
    · exact M.TC_ite (fun _ => M.TC_ret (.inl ⟨rfl, hno⟩)) (fun t => by cases t)
    · have hl : (toI l).length = l.length := List.length_map _
      refine M.TC_ite (fun t => by cases t) (fun _ => ?_)
      refine M.TC_bind (M.TC_forE (n := (toI l).length) (fun k (_ : Unit) => (l.take k).Nodup) (fun (r : Int × Bool) => r = (0, false) ∧ ¬ l.Nodup) (by omega) (by simp) (fun i s hi hI => ?_)) fun y hy => ?_
      · have hi' : i < l.length := by omega
        refine M.TC_bindC (M.Conv_sub (by omega) (by omega) (by omega)) (M.TC_bindC (toI_read hi') (M.TC_bindC (l01Has_ok _ (by simp; omega)) (M.TC_ite (fun t => M.TC_ret (.inr ⟨_, rfl, rfl, fun hn => ?_⟩)) (fun t => M.TC_ret (.inl ⟨_, rfl, ?_⟩)))))
        · simp only [Int.toNat_zero, List.drop_zero, Int.toNat_natCast, Nat.sub_zero, List.any_eq_true, beq_iff_eq] at t
          obtain ⟨v, hv, ev⟩ := t
          rw [← List.map_take] at hv
          obtain ⟨u, hu, rfl⟩ := List.mem_map.1 hv
          exact nodup_pf hn hi' u hu (by omega)
        · simp only [Int.toNat_zero, List.drop_zero, Int.toNat_natCast, Nat.sub_zero, List.any_eq_false, beq_iff_eq] at t
          rw [take_pf hi', List.nodup_append]
          refine ⟨hI, by simp, fun x hx y hy e => ?_⟩
          rw [List.mem_singleton] at hy
          subst hy; subst e
          exact t (pf l i : Int) (by rw [← List.map_take]; exact List.mem_map.2 ⟨_, hx, rfl⟩) rfl
      · rcases hy with ⟨s, rfl, hn⟩ | ⟨r, rfl, h1, h2⟩
        · rw [hl, List.take_length] at hn
          rw [hl] at hL
          have hle := nodup_lt _ l hn hlt
          obtain ⟨j, r, e⟩ : ∃ j r, l = j :: r := by
            cases l with
            | nil => simp at hL
            | cons j r => exact ⟨j, r, rfl⟩
          have h0 : M.Conv (M.idx (toI l) 0) (j : Int) := by rw [e]; exact M.Conv_idx (i := 0) rfl
          have hj : j < a.length := hlt j (by rw [e]; simp)
          refine M.TC_bind (Mid := fun w => (w = (0, false) ∧ ¬ ∃ W, Chn a a.length (l ++ [j]) W) ∨ ∃ W, w = (W, true) ∧ Chn a a.length (l ++ [j]) W) (M.TC_bindC h0 (M.TC_bindC (spec_l01Own_ok (by simp [smI]; omega)) (M.TC_bindC (x := toI (l ++ [j])) ((M.Conv_app (by simp; omega)).of (by simp)) (M.TC_bind (walk_tc2 hs rfl hB (l := l ++ [j]) (fun x hx => ?_) (by simp; omega)) fun w hw => M.TC_ret hw)))) fun w hw => M.TC_ret ?_
          · rcases List.mem_append.1 hx with hx | hx
            · exact hlt x hx
            · rw [List.mem_singleton.1 hx]; exact hj
          · rcases hw with ⟨rfl, h⟩ | ⟨W, rfl, h⟩
            · refine .inl ⟨rfl, fun ⟨W, l', e', _, j', r', e2, hc⟩ => ?_⟩
              have := toI_inj e'
              subst this
              have : j' = j := by rw [e] at e2; cases e2; rfl
              subst this
              exact h ⟨W, hc⟩
            · exact .inr ⟨W, rfl, l, rfl, hn, j, r, e, h⟩
        · refine M.TC_ret (.inl ⟨h1, fun ⟨W, l', e', hn, _⟩ => ?_⟩)
          have := toI_inj e'
          subst this
          exact h2 hn
/-- what is known of a cycle that is asked of -/
structure AskP (a : List (List Int)) (c : List Int) (b : Bool) (r : TRatio) : Prop where
  sq : sqB a = true
  max : ∃ l W, MaxC a a.length l W ∧ RatP W (l.length : Int) r
  iff : b = true ↔ ∃ W, GoodC a a.length c W ∧ W * r.Den = (c.length : Int) * r.Num
theorem critCycle_Two (a : List (List Int)) (sa : smII a) (c : List Int) (hcl : c.length ≤ 1000) : Two (spec_IsCriticalCycle a c) (impl_IsCriticalCycle a c) (fun w => w.2 = 0 → ∃ r, AskP a c w.1 r) := by
  by_cases hq : sqB a = true
  · have hm := sq_mat hq
    have hrows := hm.rows
    have hA := mat_ent hm
    have code : ∀ b : Bool, (∃ q, M.Conv (spec_l04Best a) q ∧ q.2 = b) → M.Conv (spec_l06Code a) (bif b then 0 else 4) := fun b hb => by
      obtain ⟨q, q1, hb⟩ := hb
      unfold spec_l06Code
      refine M.Conv_bind (spec_l02Square_ok sa) (M.Conv_ite (fun t => by rw [hq] at t; cases t) (fun _ => M.Conv_bind q1 (M.Conv_ite (fun t => (M.Conv_ret _).of ?_) (fun t => (M.Conv_ret _).of ?_))))
      · cases b with
        | true => rw [hb] at t; cases t
        | false => rfl
      · cases b with
        | true => rfl
        | false => rw [hb] at t; cases t
    obtain ⟨x, x1, x2⟩ := cycleMean_tc hm
    obtain ⟨q, q1, q2⟩ := best_tc hm
    rcases q2 with ⟨hqf, hno⟩ | ⟨hqt, l, W, eq1, hmc⟩
    · have hx : x.2 = false := by
        rcases x2 with ⟨h, _⟩ | ⟨_, l, W, h, _⟩
        · exact h
        · exact absurd h.wc.cl (hno l W)
      refine ⟨(false, 4), ?_, ?_, fun t => by cases t⟩
      · unfold spec_IsCriticalCycle
        exact M.Conv_bind (code false ⟨q, q1, hqf⟩) (M.Conv_ite (fun _ => M.Conv_ret _) (fun t => by cases t))
      · unfold impl_IsCriticalCycle
        exact M.Conv_bind (impl_isSquare_ok sa) (M.Conv_ite (fun t => by rw [hq] at t; cases t) (fun _ => M.Conv_bind x1 (M.Conv_ite (fun _ => M.Conv_ret _) (fun t => by rw [hx] at t; cases t))))
    · obtain ⟨hx, l', W', hmc', hr'⟩ := x2.resolve_left fun g => g.2 _ _ hmc.wc.cl
      have hlen := hmc.wc.len
      have hb := hmc.wc.cl.bd hA
      obtain ⟨r, r1, _, hr⟩ := ratio_ok (x := W) (d := (l.length : Int)) (by omega) (by omega)
      have er : x.1 = r := hmc'.same hmc hr' hr
      have hmean : M.Conv (spec_l04Mean a q.1) (r, true) := by
        rw [eq1]
        unfold spec_l04Mean
        exact M.Conv_bind (cycle_conv hm.shp rfl hA hmc.wc) (M.Conv_ite (fun t => by cases t) (fun _ => M.Conv_bind (x := r) (by rw [List.length_map]; exact r1) (M.Conv_ret _)))
      obtain ⟨w, w1, w2⟩ := l03Cycle_tc hm.shp hA hcl
      obtain ⟨w', w1', w2'⟩ := cycleWeight_tc hm.shp hA hcl
      have := w2'.unique w2
      subst this
      rcases w2 with ⟨rfl, hng⟩ | ⟨V, rfl, hg⟩
      · refine ⟨(false, 0), ?_, ?_, fun _ => ⟨r, hq, ⟨l, W, hmc, hr⟩, ⟨fun t => (by cases t), fun ⟨W, g, _⟩ => absurd ⟨W, g⟩ hng⟩⟩⟩
        · unfold spec_IsCriticalCycle spec_l04Mean at *
          exact M.Conv_bind (code true ⟨q, q1, hqt⟩) (M.Conv_ite (fun t => by cases t) (fun _ => M.Conv_bind q1 (M.Conv_bind hmean (M.Conv_bind (M.Conv_bind w1 (M.Conv_ite (fun _ => M.Conv_ret _) (fun t => by cases t))) (M.Conv_ret _)))))
        · unfold impl_IsCriticalCycle
          exact M.Conv_bind (impl_isSquare_ok sa) (M.Conv_ite (fun t => by rw [hq] at t; cases t) (fun _ => M.Conv_bind x1 (M.Conv_ite (fun t => by rw [hx] at t; cases t) (fun _ => M.Conv_bind w1' (M.Conv_bind (x := false) (M.Conv_ite (fun t => by cases t) (fun _ => M.Conv_ret _)) (M.Conv_ret _))))))
      · have hcl2 := hg.len
        have hVb : -10000000 ≤ V ∧ V ≤ 10000000 := by
          obtain ⟨lc, ec, _, hc⟩ := hg
          have := hc.bd hA
          have : lc.length = c.length := by rw [ec, List.length_map]
          omega
        obtain ⟨rc, rc1, rc2, hrc⟩ := ratio_ok (x := V) (d := (c.length : Int)) (by omega) (by omega)
        refine ⟨((rc.Num == r.Num) && (rc.Den == r.Den), 0), ?_, ?_, fun _ => ⟨r, hq, ⟨l, W, hmc, hr⟩, ?_⟩⟩
        · unfold spec_IsCriticalCycle
          have hm2 : M.Conv (spec_l04Mean a c) (rc, true) := by
            unfold spec_l04Mean
            exact M.Conv_bind w1 (M.Conv_ite (fun t => by cases t) (fun _ => M.Conv_bind rc1 (M.Conv_ret _)))
          exact M.Conv_bind (code true ⟨q, q1, hqt⟩) (M.Conv_ite (fun t => by cases t) (fun _ => M.Conv_bind q1 (M.Conv_bind hmean (M.Conv_bind hm2 ((M.Conv_ret _).of (by simp))))))
        · unfold impl_IsCriticalCycle
          refine M.Conv_bind (impl_isSquare_ok sa) (M.Conv_ite (fun t => by rw [hq] at t; cases t) (fun _ => M.Conv_bind x1 (M.Conv_ite (fun t => by rw [hx] at t; cases t) (fun _ => M.Conv_bind w1' (M.Conv_bind (M.Conv_ite (fun _ => M.Conv_bind rc2 (M.Conv_ret _)) (fun t => by cases t)) ((M.Conv_ret _).of ?_))))))
          rw [er]
        · obtain ⟨g, g0, m1, m2⟩ := hrc.mul
          have hp := hr.pos
          have hp2 := hrc.pos
          constructor
          · intro t
            simp only [Bool.and_eq_true, beq_iff_eq] at t
            refine ⟨V, hg, ?_⟩
            rw [m1, m2, t.1, t.2]; grind
          · rintro ⟨V', hg', e⟩
            have := hg.unique hg'
            subst this
            obtain ⟨g', g0', n1, n2⟩ := hr.mul
            have e2 : V * (l.length : Int) = W * (c.length : Int) := by rw [n1, n2]; grind
            have := (hrc.eq_iff (by omega) (by omega) hr).2 (by rw [e2])
            rw [this]; simp
  · have hq' : sqB a = false := by simpa using hq
    refine ⟨(false, 1), ?_, ?_, fun t => by cases t⟩
    · unfold spec_IsCriticalCycle spec_l06Code
      exact M.Conv_bind (M.Conv_bind (spec_l02Square_ok sa) (M.Conv_ite (fun _ => M.Conv_ret _) (fun t => by rw [hq'] at t; cases t))) (M.Conv_ite (fun _ => M.Conv_ret _) (fun t => by cases t))
    · unfold impl_IsCriticalCycle
      exact M.Conv_bind (impl_isSquare_ok sa) (M.Conv_ite (fun _ => M.Conv_ret _) (fun t => by rw [hq'] at t; cases t))

theorem drawNodes_ok {code : List Int} (hc : ByC code) {s : TL01source} (hs : Src code s) {a : List (List Int)} (ha : MatS a) : M.TC (spec_l03DrawNodes s a) (fun r => r.1.length ≤ 100 ∧ Src code r.2.1 ∧ r.2.2 = a) := by
  have hrows := ha.rows
  unfold spec_l03DrawNodes
  rw [hs.code_]
  refine M.TC_ite (fun _ => M.TC_ret ⟨by simp, hs, rfl⟩) (fun t => ?_)
  have hn : 1 ≤ a.length := by
    have t : (a.length : Int) ≠ 0 := by simpa using t
    omega
  refine M.TC_bind (next_ok hc hs _ (by omega)) fun x hx => M.TC_bind (next_ok hc (hx.1.mk' rfl) 6 (by omega)) fun y hy => ?_
  refine M.TC_bind (Mid := fun (r : Int × Int × List Int × Int) => Src code ⟨code, r.1, r.2.1⟩ ∧ r.2.2.1.length ≤ 10) (M.TC_loop (fun (r : Int × Int × List Int × Int) => Src code ⟨code, r.1, r.2.1⟩ ∧ 1 ≤ r.2.2.1.length ∧ 0 ≤ r.2.2.2 ∧ (r.2.2.1.length : Int) + r.2.2.2 ≤ 10 ∧ ∀ v ∈ r.2.2.1, 0 ≤ v ∧ v < (a.length : Int)) (fun r => r.2.2.2.toNat) _ ⟨hy.1.mk' rfl, by simp, hy.2.1, by simp; omega, fun v hv => by rw [List.mem_singleton.1 hv]; omega⟩ fun r hI => ?_) fun r hr => ?_
  · obtain ⟨h1, h2, h3, h4, h5⟩ := hI
    refine M.TC_ite (fun t => ?_) (fun t => M.TC_ret (.inr ⟨_, rfl, h1, by have := of_decide_eq_false t; (try simp only); omega⟩))
    have t : 0 < r.2.2.2 := by simpa using t
    refine M.TC_bind (next_ok hc h1 _ (by omega)) fun z hz => ?_
    have ew : w64 ((r.2.2.1.length : Int) - 1) = ((r.2.2.1.length - 1 : Nat) : Int) := by rw [w64_eq _ (by omega)]; omega
    rw [ew]
    refine M.TC_bind (Mid := fun v => 0 ≤ v ∧ v < (a.length : Int)) (M.TC_idx (by omega) (by omega) fun v hv => h5 v (List.mem_of_getElem? hv)) fun v hv => ?_
    refine M.TC_bind (Mid := fun (q : Int × Int) => 0 ≤ q.1 ∧ q.1 < (a.length : Int)) (M.TC_loop (fun (q : Int × Int) => 0 ≤ q.1 ∧ q.1 < (a.length : Int) ∧ 0 ≤ q.2 ∧ q.2 ≤ (a.length : Int)) (fun q => ((a.length : Int) - q.2).toNat) _ ⟨hz.2.1, by have := hz.2; (try simp only); omega, by simp, by simp⟩ fun q hq => ?_) fun q hq => ?_
    · obtain ⟨g1, g2, g3, g4⟩ := hq
      obtain ⟨k, hk, ek⟩ : ∃ k : Nat, k < a.length ∧ q.1 = k := ⟨q.1.toNat, by omega, by omega⟩
      have rd : M.Conv (M.idx a q.1) (rowN a k) := by rw [ek]; exact get_row (rowN_get hk)
      refine M.TC_bind (Mid := fun b => b = true → q.2 < (a.length : Int) ∧ v < ((rowN a k).length : Int)) (M.TC_ite (fun t => M.TC_bindC rd (M.TC_ret fun h => ⟨of_decide_eq_true t, of_decide_eq_true h⟩)) (fun _ => M.TC_ret fun h => by cases h)) fun b hb => ?_
      refine M.TC_bind (Mid := fun b' => b' = true → q.2 < (a.length : Int)) (M.TC_ite (fun t => M.TC_bindC rd (M.TC_bind (Mid := fun _ => True) (M.TC_idx hv.1 (hb t).2 fun _ _ => trivial) fun _ _ => M.TC_ret fun _ => (hb t).1)) (fun _ => M.TC_ret fun h => by cases h)) fun b' hb' => ?_
      refine M.TC_ite (fun t => ?_) (fun _ => M.TC_ret (.inr ⟨_, rfl, g1, g2⟩))
      have := hb' t
      refine M.TC_bindC (M.Conv_guard (bne_iff_ne.2 (show (a.length : Int) ≠ 0 by omega))) (M.TC_ret (.inl ⟨_, rfl, ⟨?_, ?_, ?_, ?_⟩, ?_⟩))
      · simp only; rw [w64_eq _ (by omega)]; exact Int.tmod_nonneg _ (by omega)
      · exact Int.tmod_lt_of_pos (w64 (q.1 + 1)) (show (0 : Int) < (a.length : Int) by omega)
      · simp only; rw [w64_eq _ (by omega)]; omega
      · simp only; rw [w64_eq _ (by omega)]; omega
      · simp only; rw [w64_eq _ (by omega)]; omega
    · refine M.TC_bindC (M.Conv_app (by simp; omega)) (M.TC_ret (.inl ⟨_, rfl, ⟨hz.1.mk' rfl, by simp, ?_, ?_, fun u hu => ?_⟩, ?_⟩))
      · simp only; rw [w64_eq _ (by omega)]; omega
      · simp only; rw [w64_eq _ (by omega)]; simp; omega
      · rcases List.mem_append.1 hu with hu | hu
        · exact h5 u hu
        · rw [List.mem_singleton.1 hu]; exact hq
      · simp only; rw [w64_eq _ (by omega)]; omega
  · obtain ⟨h1, h2⟩ := hr
    refine M.TC_bind (next_ok hc h1 40 (by omega)) fun z hz => M.TC_ite (fun _ => ?_) (fun _ => M.TC_ite (fun _ => M.TC_ret ⟨by simp, hz.1.mk' rfl, rfl⟩) (fun _ => M.TC_ret ⟨by (try simp only); omega, hz.1.mk' rfl, rfl⟩))
    exact M.TC_bind (pick_ok hc (hz.1.mk' rfl) _ (by simp) (by simp) (fun _ => True) (by simp)) fun u hu => M.TC_bindC (M.Conv_app (by simp; omega)) (M.TC_ret ⟨by simp; omega, hu.1.mk' rfl, rfl⟩)
/-- a list turned round -/
theorem turned_tc {l : List Int} {k : Int} (hl : l.length ≤ 100) (h0 : 0 ≤ k) (h1 : k ≤ l.length) {α : Type} {f : List Int → M α} {Post : α → Prop} (h : ∀ c, c.length ≤ 100 → M.TC (f c) Post) :
    M.TC (M.bind (M.sub l k (l.length : Int)) (fun x6 => M.bind (M.sub l 0 k) (fun x7 => M.bind (spec_l01Own x6) (fun x8 => M.bind (M.app x8 x7) f)))) Post := by
  refine M.TC_bindC (M.Conv_sub h0 h1 (by omega)) (M.TC_bindC (M.Conv_sub (by omega) h0 h1) (M.TC_bindC (spec_l01Own_ok ?_) (M.TC_bindC (M.Conv_app ?_) (h _ ?_))))
  · unfold smI; simp; omega
  · simp; omega
  · simp; omega
theorem drawCycle_ok {code : List Int} (hc : ByC code) {s : TL01source} (hs : Src code s) {a : List (List Int)} (ha : MatS a) : M.TC (spec_l03DrawCycle s a) (fun r => r.1.length ≤ 100 ∧ Src code r.2.1 ∧ r.2.2 = a) := by
  unfold spec_l03DrawCycle
  rw [hs.code_]
  refine M.TC_bind (Mid := fun (r : Int × Int × Bool) => Src code ⟨code, r.1, r.2.1⟩ ∧ (r.2.2 = true → sqB a = true)) (M.TC_bindC (spec_l02Square_ok ha.sm) (M.TC_ite (fun t => M.TC_bind (next_ok hc hs 4 (by omega)) fun y hy => M.TC_ret ⟨hy.1.mk' rfl, fun _ => t⟩) (fun _ => M.TC_ret ⟨hs.mk' rfl, fun t => by cases t⟩))) fun r hr => ?_
  obtain ⟨h1, h2⟩ := hr
  refine M.TC_ite (fun t => ?_) (fun _ => M.TC_bind (drawNodes_ok hc h1 ha) fun y hy => M.TC_ret ⟨hy.1, hy.2.1.mk' rfl, hy.2.2⟩)
  have hm := sq_mat (h2 t)
  have hrows := hm.rows
  refine M.TC_bind (pick_ok hc h1 _ (by simp) (by simp) (fun _ => True) (by simp)) fun y hy => M.TC_bind (over_tc hm.shp rfl (mat_ent hm) (by omega) (by omega)) fun q hq => ?_
  have hql : q.length ≤ 100 := by
    rcases hq with ⟨rfl, _⟩ | ⟨l, w, rfl, hw, _⟩
    · simp
    · have := hw.len
      rw [List.length_map]; omega
  refine M.TC_ite (fun _ => ?_) (fun _ => M.TC_bind (drawNodes_ok hc (hy.1.mk' rfl) ha) fun y hy => M.TC_ret ⟨hy.1, hy.2.1.mk' rfl, hy.2.2⟩)
  refine M.TC_bind (next_ok hc (hy.1.mk' rfl) _ (by omega)) fun z hz => ?_
  exact turned_tc hql hz.2.1 (by have := hz.2; omega) fun c hcl => M.TC_ret ⟨hcl, hz.1.mk' rfl, rfl⟩
theorem DrawIsCriticalCycle_ok {code : List Int} (hc : ByC code) : M.TC (spec_DrawIsCriticalCycle code) (fun r => MatS r.1 ∧ r.2.length ≤ 100) := by
  unfold spec_DrawIsCriticalCycle
  refine M.TC_bind (from_ok hc) fun s hs => ?_
  rw [hs.code_]
  refine M.TC_bind (draw6_ok hc hs) fun x hx => ?_
  obtain ⟨hm, hx⟩ := hx
  refine M.TC_bind (Mid := fun (w : List Int × Int) => w.1.length ≤ 100) ?_ fun w hw => ?_
  · unfold spec_BestCycle
    refine M.TC_bindC (spec_l02Square_ok hm.sm) (M.TC_ite (fun _ => M.TC_ret (by simp)) (fun t => ?_))
    have hM := sq_mat (show sqB x.1 = true by simpa using t)
    have hrows := hM.rows
    refine M.TC_bind (best_tc hM) fun q hq => M.TC_ite (fun _ => M.TC_ret (by simp)) (fun t => M.TC_ret ?_)
    rcases hq with ⟨h, _⟩ | ⟨_, l, W, e, h⟩
    · rw [h] at t; cases t
    · have := h.wc.len
      (try simp only)
      rw [e, List.length_map]; omega
  · refine M.TC_bind (Mid := fun (r : Int × Int × Bool) => Src code ⟨code, r.1, r.2.1⟩) (M.TC_ite (fun _ => M.TC_ret (hx.mk' rfl)) (fun _ => M.TC_bind (next_ok hc (hx.mk' rfl) 2 (by omega)) fun y hy => M.TC_ret (hy.1.mk' rfl))) fun r hr => M.TC_ite (fun _ => M.TC_bind (drawCycle_ok hc hr hm) fun y hy => M.TC_ret ⟨by (try simp only); rw [hy.2.2]; exact hm, hy.1⟩) (fun _ => ?_)
    refine M.TC_bind (next_ok hc hr _ (by omega)) fun z hz => ?_
    exact turned_tc hw hz.2.1 (by have := hz.2; omega) fun c hcl => M.TC_ret ⟨hm, hcl⟩

/-- a cycle is of the greatest mean just where all its arcs are critical -/
theorem cycle_crit {a : List (List Int)} (hm : Mat a a.length) {l : List Nat} {W : Int} {r : TRatio} {S : List (List Int)} (h : CritP a l W r S) {c : List Nat} {V : Int} (hc : Cl a a.length c V) :
    V * r.Den = (c.length : Int) * r.Num ↔ ∀ i, i < c.length → critB (matF a.length a.length (shF a r.Den r.Num)) S (pf c i) (pf c ((i + 1) % c.length)) = true := by
  have hlt := hc.lt
  obtain ⟨u0, r0, ec, hw⟩ := hc
  have hu0 : u0 < a.length := hlt u0 (by rw [ec]; simp)
  have hL : (c ++ [u0]).length = c.length + 1 := by simp
  have hltL : ∀ k, k ≤ c.length → pf (c ++ [u0]) k < a.length := fun k hk => by
    have := pf_mem (l := c ++ [u0]) (k := k) (by omega)
    rcases List.mem_append.1 this with hx | hx
    · exact hlt _ hx
    · rw [List.mem_singleton.1 hx]; exact hu0
  have e0 : pf c 0 = u0 := by rw [ec]; rfl
  have eL : ∀ i, i < c.length → pf (c ++ [u0]) i = pf c i := fun i hi => by
    unfold pf
    rw [List.getElem?_append_left hi]
  have eL2 : ∀ i, i < c.length → pf (c ++ [u0]) (i + 1) = pf c ((i + 1) % c.length) := fun i hi => by
    by_cases e : i + 1 = c.length
    · rw [e, Nat.mod_self, e0]
      unfold pf
      rw [List.getElem?_append_right (by omega)]; simp
    · rw [Nat.mod_eq_of_lt (by omega)]
      exact eL _ (by omega)
  have hb := hw.sh h.sh
  rw [hL, show ((c.length + 1 : Nat) : Int) - 1 = (c.length : Int) by omega] at hb
  have hX : r.Den * V - r.Num * (c.length : Int) ≤ 0 := h.np c _ ⟨u0, r0, ec, hb⟩
  have head : ∀ k, 1 ≤ k → ((c ++ [u0]).take k).head? = some u0 := fun k hk => by
    obtain ⟨q, rfl⟩ : ∃ q, k = q + 1 := ⟨k - 1, by omega⟩
    rw [ec]; rfl
  have hent := fun {i j : Nat} (hi : i < a.length) (hj : j < a.length) => h.ent hm hi hj
  have hst := h.st
  have hnp := h.np
  constructor
  · intro hz i hi
    have hX0 : r.Den * V - r.Num * (c.length : Int) = 0 := by rw [Int.mul_comm r.Den, Int.mul_comm r.Num]; omega
    rw [hX0] at hb
    have hsp := split_pf (l := c ++ [u0]) (q := i) (by omega)
    have hu := hltL i (by omega)
    have hv := hltL (i + 1) (by omega)
    have hd : pf (c ++ [u0]) (i + 1) :: (c ++ [u0]).drop (i + 1 + 1) = c.drop (i + 1) ++ [u0] := by
      rw [← List.drop_append_of_le_length (by omega), List.drop_eq_getElem_cons (i := i + 1) (by omega)]
      congr 1
      simp only [pf]
      rw [List.getElem?_eq_getElem (show i + 1 < (c ++ [u0]).length by omega)]; rfl
    have hh : ((c ++ [u0]).take i ++ [pf (c ++ [u0]) i]).head? = some u0 := by rw [← take_pf (by omega)]; exact head _ (by omega)
    rw [hsp] at hb
    rw [← eL i hi, ← eL2 i hi]
    generalize pf (c ++ [u0]) (i + 1) = v at *
    generalize pf (c ++ [u0]) i = u at *
    obtain ⟨w1, w2, e1, h1, h2⟩ := hb.split
    cases h2 with
    | cons _ _ _ w3 _ ha h3 =>
      have k1 := Wlk.of_chn _ h1 hh rfl
      rw [hd] at h3
      have hh3 : (c.drop (i + 1) ++ [u0]).head? = some v := by rw [← hd]; rfl
      have k3 := Wlk.of_chn _ h3 hh3 rfl
      obtain ⟨q1, q2⟩ := hst.cpl u v _ _ (k3.trans k1)
      obtain ⟨k, hk⟩ := (hst.snd u v hu hv).resolve_left q1
      have := hnp.closed (Wlk.step k u v _ hk hv ha)
      obtain ⟨b1, b2⟩ := hent hv hu
      exact (critB_iff b1 b2).2 ⟨ha, q1, by omega⟩
  · intro hall
    have key : ∀ k, k ≤ c.length → ∃ w m, Chn (matF a.length a.length (shF a r.Den r.Num)) a.length ((c ++ [u0]).take (k + 1)) w ∧ Wlk (matF a.length a.length (shF a r.Den r.Num)) a.length (pf (c ++ [u0]) k) m u0 (-w) := by
      intro k
      induction k with
      | zero =>
        intro _
        refine ⟨0, 0, ?_, ?_⟩
        · rw [take_pf (by omega)]
          have : pf (c ++ [u0]) 0 = u0 := by rw [ec]; rfl
          rw [this]
          exact .one u0 hu0
        · have : pf (c ++ [u0]) 0 = u0 := by rw [ec]; rfl
          rw [this]
          exact .nil hu0
      | succ k ih =>
        intro hk
        obtain ⟨w, m, k1, k2⟩ := ih (by omega)
        have hc1 := hall k (by omega)
        rw [← eL k (by omega), ← eL2 k (by omega)] at hc1
        have hu := hltL k (by omega)
        have hv := hltL (k + 1) hk
        rw [take_pf (show k + 1 < (c ++ [u0]).length by omega)]
        rw [take_pf (show k < (c ++ [u0]).length by omega)] at k1 ⊢
        generalize pf (c ++ [u0]) (k + 1) = v at *
        generalize pf (c ++ [u0]) k = u at *
        obtain ⟨b1, b2⟩ := hent hv hu
        obtain ⟨p1, p2, p3⟩ := (critB_iff b1 b2).1 hc1
        obtain ⟨j, hj⟩ := (hst.snd u v hu hv).resolve_left p2
        refine ⟨_, j + m, k1.snoc hv p1, ?_⟩
        have := hj.trans k2
        rw [show entA S u v + -w = -(w + entA (matF a.length a.length (shF a r.Den r.Num)) v u) by omega] at this
        exact this
    obtain ⟨w, m, k1, k2⟩ := key c.length (Nat.le_refl _)
    rw [← hL, List.take_length] at k1
    have := hb.unique k1
    have e2 : pf (c ++ [u0]) c.length = u0 := by
      unfold pf
      rw [List.getElem?_append_right (by omega)]; simp
    rw [e2] at k2
    have h5 := h.np.le0 k2
    have h6 : r.Den * V = r.Num * (c.length : Int) := by omega
    rw [Int.mul_comm V, h6, Int.mul_comm]
theorem arcs_Two (a : List (List Int)) (sa : smII a) : Two (spec_CriticalArcs a) (impl_CriticalArcs a) (fun w => smII w.1 ∧ (w.2 ≠ 0 → sqB a = true → ∀ l w, ¬ Cl a a.length l w) ∧ (w.2 = 0 → sqB a = true ∧ ∃ l W r S, CritP a l W r S ∧ w.1 = (arcsV (critB (matF a.length a.length (shF a r.Den r.Num)) S) a.length a.length).map encA)) := by
  by_cases hq : sqB a = true
  · have hm := sq_mat hq
    have hrows := hm.rows
    obtain ⟨w, c1, c2⟩ := critical_both sa hq
    rcases c2 with ⟨hw, hno, c2⟩ | ⟨hw, c2, c3, l, W, r, S, hC, ew, c4⟩
    · refine ⟨([], 4), M.Conv_bind c2 (M.Conv_ite (fun _ => M.Conv_ret _) (fun t => by cases t)), M.Conv_bind c1 (M.Conv_ite (fun _ => (M.Conv_ret _).of (by rw [hw])) (fun t => by rw [hw] at t; cases t)), ⟨by simp, by simp⟩, fun _ _ => hno, fun t => by cases t⟩
    · have harc := fun {i k : Nat} (hi : i < a.length) (hk : k < a.length) => hC.arc hm hi hk
      refine ⟨((arcsV (critB (matF a.length a.length (shF a r.Den r.Num)) S) a.length a.length).map encA, 0), M.Conv_bind c2 (M.Conv_ite (fun t => by cases t) (fun _ => M.Conv_bind c4 (M.Conv_ret _))), ?_, ?_, fun t => absurd rfl t, fun _ => ⟨hq, l, W, r, S, hC, rfl⟩⟩
      · unfold impl_CriticalArcs
        refine M.Conv_bind c1 (M.Conv_ite (fun t => by rw [hw] at t; cases t) (fun _ => ?_))
        rw [ew, matF_len]
        generalize critB (matF a.length a.length (shF a r.Den r.Num)) S = cb at *
        generalize hCe : matF a.length a.length (critF (matF a.length a.length (shF a r.Den r.Num)) S a) = C at *
        have hs : Shp C a.length := by rw [← hCe]; exact shp_of (by omega) (by omega)
        have hl : C.length = a.length := by rw [← hCe]; exact matF_len _ _ _
        generalize a.length = n at *
        refine M.Conv_bind (x := (arcsV cb n n).map encA) (Conv_forV (fun j => (arcsV cb n j).map encA) (by omega) fun j hj => ?_) (M.Conv_ret _)
        refine M.Conv_bind (x := (rowV cb n j n).map encA) (Conv_forV (fun i => (rowV cb n j i).map encA) (by omega) fun i hi => ?_) ((M.Conv_ret _).of (by rw [rowV_eq]; rfl))
        have hib : i < C.length := by omega
        have hrl := hs.row _ (List.mem_of_getElem? (rowN_get hib))
        have g2 := nd_read (l := rowN C i) (i := j) (by omega)
        rw [nd_row hib] at g2
        have hl1 := arcsV_len cb n j
        have hl2 := arcsR_len cb j i
        have hjn : j * n ≤ 100 := Nat.mul_le_mul (show j ≤ 10 by omega) (show n ≤ 10 by omega)
        have hl3 : ((rowV cb n j i).map encA).length ≤ 200 := by rw [List.length_map, rowV_eq, List.length_append]; omega
        have ha := harc (i := i) (k := j) hi hj
        refine M.Conv_bind (get_row (rowN_get hib)) (M.Conv_bind g2 (M.Conv_bind (x := (rowV cb n j (i + 1)).map encA) ?_ (M.Conv_ret _)))
        rw [rowV]
        refine M.Conv_ite (fun t => M.Conv_bind (M.Conv_app (by rw [List.length_cons, List.length_nil]; omega)) ((M.Conv_ret _).of ?_)) (fun t => (M.Conv_ret _).of ?_)
        · have : cb j i = true := ha.1 (by unfold arcE; simpa using t)
          rw [this]; simp [encA]
        · have : cb j i = false := by
            cases hcb : cb j i with
            | false => rfl
            | true => exact absurd (ha.2 hcb) (by unfold arcE; simpa using t)
          rw [this]; simp
      · have hl := arcsV_len (critB (matF a.length a.length (shF a r.Den r.Num)) S) a.length a.length
        have hnn : a.length * a.length ≤ 100 := Nat.mul_le_mul (show a.length ≤ 10 by omega) (show a.length ≤ 10 by omega)
        refine ⟨by rw [List.length_map]; omega, fun x hx => ?_⟩
        obtain ⟨p, _, rfl⟩ := List.mem_map.1 hx
        simp [encA]
  · have hq' : sqB a = false := by simpa using hq
    refine ⟨([], 1), ?_, ?_, ⟨by simp, by simp⟩, fun _ t => absurd t hq, fun t => by cases t⟩
    · unfold spec_CriticalArcs spec_l06Code
      exact M.Conv_bind (M.Conv_bind (spec_l02Square_ok sa) (M.Conv_ite (fun _ => M.Conv_ret _) (fun t => by rw [hq'] at t; cases t))) (M.Conv_ite (fun _ => M.Conv_ret _) (fun t => by cases t))
    · unfold impl_CriticalArcs impl_criticalOf
      exact M.Conv_bind (M.Conv_bind (impl_isSquare_ok sa) (M.Conv_ite (fun _ => M.Conv_ret _) (fun t => by rw [hq'] at t; cases t))) (M.Conv_ite (fun _ => M.Conv_ret _) (fun t => by cases t))
theorem matrix_Two (a : List (List Int)) (sa : smII a) : Two (spec_CriticalMatrix a) (impl_CriticalMatrix a) (fun w => smII w.1 ∧ (w.2 = 0 → sqB a = true ∧ ∃ l W r S, CritP a l W r S ∧ w.1 = matF a.length a.length (critF (matF a.length a.length (shF a r.Den r.Num)) S a))) := by
  by_cases hq : sqB a = true
  · have hm := sq_mat hq
    have hrows := hm.rows
    obtain ⟨w, c1, c2⟩ := critical_both sa hq
    have hI : M.Conv (impl_CriticalMatrix a) (w.1, w.2) := M.Conv_bind c1 (M.Conv_ret _)
    rcases c2 with ⟨hw, hno, c2⟩ | ⟨hw, c2, c3, l, W, r, S, hC, ew, c4⟩
    · -- no cycle: what the given road gives there is read off its code
      have he : w.1 = [] := by
        have h1 : M.Conv (impl_criticalOf a) (([] : List (List Int)), 4) := by
          obtain ⟨x, x1, x2⟩ := cycleMean_tc hm
          have hx : x.2 = false := by
            rcases x2 with ⟨h, _⟩ | ⟨_, l, W, h, _⟩
            · exact h
            · exact absurd h.wc.cl (hno l W)
          unfold impl_criticalOf
          exact M.Conv_bind (impl_isSquare_ok sa) (M.Conv_ite (fun t => by rw [hq] at t; cases t) (fun _ => M.Conv_bind x1 (M.Conv_ite (fun _ => M.Conv_ret _) (fun t => by rw [hx] at t; cases t))))
        have := M.Conv.unique c1 h1
        rw [this]
      rw [he, hw] at hI
      exact ⟨([], 4), M.Conv_bind c2 (M.Conv_ite (fun _ => M.Conv_ret _) (fun t => by cases t)), hI, ⟨by simp, by simp⟩, fun t => by cases t⟩
    · rw [hw] at hI
      refine ⟨(w.1, 0), M.Conv_bind c2 (M.Conv_ite (fun t => by cases t) (fun _ => M.Conv_bind c3 (M.Conv_ret _))), hI, ?_, fun _ => ⟨hq, l, W, r, S, hC, ew⟩⟩
      (try simp only)
      rw [ew]
      exact (shp_of (by omega) (by omega)).sm
  · have hq' : sqB a = false := by simpa using hq
    refine ⟨([], 1), ?_, ?_, ⟨by simp, by simp⟩, fun t => by cases t⟩
    · unfold spec_CriticalMatrix spec_l06Code
      exact M.Conv_bind (M.Conv_bind (spec_l02Square_ok sa) (M.Conv_ite (fun _ => M.Conv_ret _) (fun t => by rw [hq'] at t; cases t))) (M.Conv_ite (fun _ => M.Conv_ret _) (fun t => by cases t))
    · unfold impl_CriticalMatrix impl_criticalOf
      exact M.Conv_bind (M.Conv_bind (impl_isSquare_ok sa) (M.Conv_ite (fun _ => M.Conv_ret _) (fun t => by rw [hq'] at t; cases t))) (M.Conv_ret _)

theorem hasInt_ok {l : List Int} (x : Int) (h : l.length ≤ 9223372036854775807) : M.Conv (laws_hasInt l x) (l.any fun y => y == x) := l01Has_ok x h
theorem arcs_tail {a : List (List Int)} {A : List (List Int) × Int} {N : List Int × Int} {X : List (List Int) × Int} (hN : N.1.length ≤ 1000) (hA : A.1.length ≤ 1048576)
    (h : A.2 = 0 → ∀ k, k < A.1.length → ∃ j i : Nat, A.1[k]? = some [(j : Int), (i : Int)] ∧ (N.1.any fun y => y == (j : Int)) = true ∧ (N.1.any fun y => y == (i : Int)) = true ∧ ∃ r1 r2 e, M.Conv (M.idx X.1 (i : Int)) r1 ∧ M.Conv (M.idx r1 (j : Int)) e ∧ M.Conv (M.idx a (i : Int)) r2 ∧ M.Conv (M.idx r2 (j : Int)) e) :
    M.Conv ((M.bind (M.loop (fun (s3 : Int) => M.ite ((A.2 == 0) && (decide (s3 < (A.1.length : Int)))) (M.bind (M.idx A.1 s3) (fun x39 => M.bind (M.idx x39 0) (fun x40 => M.bind (laws_hasInt N.1 x40) (fun x41 => M.bind (M.ite (!x41) (M.ret true) (M.bind (M.idx A.1 s3) (fun x43 => M.bind (M.idx x43 1) (fun x44 => M.bind (laws_hasInt N.1 x44) (fun x45 => M.ret (!x45)))))) (fun x42 => M.bind (M.ite x42 (M.ret true) (M.bind (M.idx A.1 s3) (fun x47 => M.bind (M.idx x47 1) (fun x48 => M.bind (M.idx X.1 x48) (fun x49 => M.bind (M.idx A.1 s3) (fun x50 => M.bind (M.idx x50 0) (fun x51 => M.bind (M.idx x49 x51) (fun x52 => M.bind (M.idx A.1 s3) (fun x53 => M.bind (M.idx x53 1) (fun x54 => M.bind (M.idx a x54) (fun x55 => M.bind (M.idx A.1 s3) (fun x56 => M.bind (M.idx x56 0) (fun x57 => M.bind (M.idx x55 x57) (fun x58 => M.ret (x52 != x58))))))))))))))) (fun x46 => M.ite x46 (M.ret (.inr (.inr false))) (M.ret (.inl (w64 (s3 + 1)))))))))) (M.ret (.inr (.inl s3)))) 0) (fun x37 => M.cont x37 (fun _ => M.ret true) (fun r => M.ret r))) : M Bool) true := by
  apply M.TC.conv
  refine M.TC_bind (Mid := fun (y : Int ⊕ Bool) => ∃ s, y = .inl s) (M.TC_loop (fun (s : Int) => ∃ k : Nat, s = k ∧ k ≤ A.1.length) (fun s => ((A.1.length : Int) - s).toNat) _ ⟨0, rfl, by omega⟩ fun s hI => ?_) fun y hy => ?_
  · obtain ⟨k, rfl, hk⟩ := hI
    refine M.TC_ite (fun t => ?_) (fun _ => M.TC_ret (.inr ⟨_, rfl, _, rfl⟩))
    simp only [Bool.and_eq_true, beq_iff_eq, decide_eq_true_eq] at t
    have hk' : k < A.1.length := by omega
    obtain ⟨j, i, g1, g2, g3, r1, r2, e, q1, q2, q3, q4⟩ := h t.1 k hk'
    have p0 : M.Conv (M.idx A.1 (k : Int)) [(j : Int), (i : Int)] := M.Conv_idx g1
    have pj : M.Conv (M.idx [(j : Int), (i : Int)] 0) (j : Int) := M.Conv_idx (i := 0) rfl
    have pi : M.Conv (M.idx [(j : Int), (i : Int)] 1) (i : Int) := M.Conv_idx (i := 1) rfl
    refine M.TC_bindC p0 (M.TC_bindC pj (M.TC_bindC ((hasInt_ok _ (by omega)).of g2) (M.TC_bindC (x := false) (M.Conv_ite (fun t => by cases t) (fun _ => M.Conv_bind p0 (M.Conv_bind pi (M.Conv_bind ((hasInt_ok _ (by omega)).of g3) (M.Conv_ret _))))) (M.TC_bindC (x := false) (M.Conv_ite (fun t => by cases t) (fun _ => M.Conv_bind p0 (M.Conv_bind pi (M.Conv_bind q1 (M.Conv_bind p0 (M.Conv_bind pj (M.Conv_bind q2 (M.Conv_bind p0 (M.Conv_bind pi (M.Conv_bind q3 (M.Conv_bind p0 (M.Conv_bind pj (M.Conv_bind q4 ((M.Conv_ret _).of (by simp))))))))))))))) (M.TC_ite (fun t => by cases t) (fun _ => M.TC_ret (.inl ⟨_, rfl, ⟨k + 1, ?_, by omega⟩, ?_⟩)))))))
    · rw [w64_eq _ (by omega)]; omega
    · rw [w64_eq _ (by omega)]; omega
  · obtain ⟨s, rfl⟩ := hy
    exact M.TC_ret rfl
theorem cyc_loop {cb : Nat → Nat → Bool} {n : Nat} {c0 : List Nat} (hn : n ≤ 10) (hlt : ∀ x ∈ c0, x < n) (hl : 1 ≤ c0.length ∧ c0.length ≤ 10) {c : List Int} (ec : c = toI c0) {L : List (List Int)} (eL : L = (arcsV cb n n).map encA) :
    M.TC ((M.forI 0 (c.length : Int) (fun s => s) (fun i1 => (fun (s1 : Bool) => M.bind (M.forI 0 (L.length : Int) (fun s => s) (fun i2 => (fun (s2 : Bool) => M.bind (M.ite s2 (M.ret true) (M.bind (M.idx L i2) (fun x28 => M.bind (M.idx x28 0) (fun x29 => M.bind (M.idx c i1) (fun x30 => M.bind (M.ite (x29 == x30) (M.bind (M.idx L i2) (fun x32 => M.bind (M.idx x32 1) (fun x33 => M.bind (M.guard ((c.length : Int) != 0)) (fun _ => M.bind (M.idx c ((w64 (i1 + 1)).tmod (c.length : Int))) (fun x34 => M.ret (x33 == x34)))))) (M.ret false)) (fun x31 => M.ret x31)))))) (fun x27 => M.ret (.inl x27)))) false) (fun x26 => M.ret (.inl (s1 && x26))))) true) : M Bool) (fun b => b = true ↔ ∀ i, i < c0.length → cb (pf c0 i) (pf c0 ((i + 1) % c0.length)) = true) := by
  subst ec
  subst eL
  have hcl : (toI c0).length = c0.length := List.length_map _
  have hal := arcsV_len cb n n
  have hnn : n * n ≤ 100 := Nat.mul_le_mul (show n ≤ 10 by omega) (show n ≤ 10 by omega)
  have hLl : ((arcsV cb n n).map encA).length = (arcsV cb n n).length := List.length_map _
  refine (M.TC_forN (n := (toI c0).length) (fun k (s : Bool) => s = true ↔ ∀ i, i < k → cb (pf c0 i) (pf c0 ((i + 1) % c0.length)) = true) (by omega) (by simp) (fun i s hi hI => ?_)).mono fun b hb => by rw [hcl] at hb; exact hb
  have hi' : i < c0.length := by omega
  have hu := hlt _ (pf_mem hi')
  have hmod : (i + 1) % c0.length < c0.length := Nat.mod_lt _ (by omega)
  have hv := hlt _ (pf_mem hmod)
  have em : (w64 ((i : Int) + 1)).tmod ((toI c0).length : Int) = (((i + 1) % c0.length : Nat) : Int) := by
    rw [w64_eq _ (by omega), hcl]; rfl
  have ru : M.Conv (M.idx (toI c0) (i : Int)) (pf c0 i : Int) := toI_read hi'
  have rv : M.Conv (M.idx (toI c0) ((w64 ((i : Int) + 1)).tmod ((toI c0).length : Int))) (pf c0 ((i + 1) % c0.length) : Int) := by rw [em]; exact toI_read hmod
  refine M.TC_bind (M.TC_forN (n := ((arcsV cb n n).map encA).length) (fun k (s : Bool) => s = true ↔ (pf c0 i, pf c0 ((i + 1) % c0.length)) ∈ (arcsV cb n n).take k) (by omega) (by simp) (fun k s hk hJ => ?_)) fun b hb => M.TC_ret ⟨_, rfl, ?_⟩
  · rw [hLl] at hk
    have hp : M.Conv (M.idx ((arcsV cb n n).map encA) (k : Int)) (encA (arcsV cb n n)[k]) := M.Conv_idx (by simp [hk])
    have et : (arcsV cb n n).take (k + 1) = (arcsV cb n n).take k ++ [(arcsV cb n n)[k]] := by rw [List.take_add_one]; simp [hk]
    generalize (arcsV cb n n)[k] = p at hp et
    have p0 : M.Conv (M.idx (encA p) 0) (p.1 : Int) := M.Conv_idx (i := 0) rfl
    have p1 : M.Conv (M.idx (encA p) 1) (p.2 : Int) := M.Conv_idx (i := 1) rfl
    refine M.TC_bind (Mid := fun b => b = true ↔ (pf c0 i, pf c0 ((i + 1) % c0.length)) ∈ (arcsV cb n n).take (k + 1)) ?_ fun b hb => M.TC_ret ⟨_, rfl, hb⟩
    rw [et]
    refine M.TC_ite (fun t => M.TC_ret ⟨fun _ => List.mem_append.2 (.inl (hJ.1 t)), fun _ => rfl⟩) (fun t => M.TC_bindC hp (M.TC_bindC p0 (M.TC_bindC ru ?_)))
    have hno : ¬ (pf c0 i, pf c0 ((i + 1) % c0.length)) ∈ (arcsV cb n n).take k := fun h => by rw [hJ.2 h] at t; cases t
    refine M.TC_bind (Mid := fun b => b = true ↔ (pf c0 i, pf c0 ((i + 1) % c0.length)) = p) (M.TC_ite (fun t1 => M.TC_bindC hp (M.TC_bindC p1 (M.TC_bindC (M.Conv_guard (bne_iff_ne.2 (show ((toI c0).length : Int) ≠ 0 by omega))) (M.TC_bindC rv (M.TC_ret ?_))))) (fun t1 => M.TC_ret ?_)) fun b hb => M.TC_ret ?_
    · have t1 := eq_of_beq t1
      rw [beq_iff_eq]
      constructor
      · intro e
        exact Prod.ext (by (try simp only); omega) (by (try simp only); omega)
      · intro e
        rw [← e]
    · have t1 : (p.1 : Int) ≠ (pf c0 i : Int) := by simpa using t1
      exact ⟨fun h => (by cases h), fun e => absurd (by rw [← e]) t1⟩
    · rw [hb, List.mem_append, List.mem_singleton]
      exact ⟨.inr, fun h => h.resolve_left hno⟩
  · rw [hLl, List.take_length, arcsV_mem] at hb
    have hbi : b = true ↔ cb (pf c0 i) (pf c0 ((i + 1) % c0.length)) = true := hb.trans ⟨fun h => h.2.2, fun h => ⟨hu, hv, h⟩⟩
    rw [Bool.and_eq_true, hI, hbi]
    constructor
    · rintro ⟨h1, h2⟩ q hq
      by_cases e : q = i
      · subst e; exact h2
      · exact h1 q (by omega)
    · exact fun h => ⟨fun q hq => h q (by omega), h i (by omega)⟩

theorem isCycle_tc {a : List (List Int)} (sa : smII a) (hq : sqB a = true) {c : List Int} (hcl : c.length ≤ 1000) : M.TC (impl_IsCycle a c) (fun b => b = true → ∃ W, GoodC a a.length c W) := by
  have hm := sq_mat hq
  unfold impl_IsCycle
  refine M.TC_bindC (impl_isSquare_ok sa) (M.TC_ite (fun t => by rw [hq] at t; cases t) (fun _ => M.TC_bind (cycleWeight_tc hm.shp (mat_ent hm) hcl) fun w hw => M.TC_ret fun t => ?_))
  rcases hw with ⟨rfl, _⟩ | ⟨W, rfl, hg⟩
  · cases t
  · exact ⟨W, hg⟩
theorem arcs_tail' {a : List (List Int)} (sa : smII a) {A : List (List Int) × Int} {N : List Int × Int} {X : List (List Int) × Int} (a1 : M.Conv (spec_CriticalArcs a) A) (n1 : M.Conv (spec_CriticalNodes a) N) (x2 : M.Conv (impl_CriticalMatrix a) X) (hq : sqB a = true) (h0 : A.2 = 0) :
    ∀ k, k < A.1.length → ∃ j i : Nat, A.1[k]? = some [(j : Int), (i : Int)] ∧ (N.1.any fun y => y == (j : Int)) = true ∧ (N.1.any fun y => y == (i : Int)) = true ∧ ∃ r1 r2 e, M.Conv (M.idx X.1 (i : Int)) r1 ∧ M.Conv (M.idx r1 (j : Int)) e ∧ M.Conv (M.idx a (i : Int)) r2 ∧ M.Conv (M.idx r2 (j : Int)) e := by
  have hm := sq_mat hq
  have hrows := hm.rows
  obtain ⟨w, c1, c2⟩ := critical_both sa hq
  rcases c2 with ⟨hw, _, c2⟩ | ⟨hw, c2, c3, l, W, r, S, hC, ew, c4⟩
  · have : M.Conv (spec_CriticalArcs a) (([] : List (List Int)), 4) := M.Conv_bind c2 (M.Conv_ite (fun _ => M.Conv_ret _) (fun t => by cases t))
    have := M.Conv.unique a1 this
    rw [this] at h0; cases h0
  · have hA : M.Conv (spec_CriticalArcs a) ((arcsV (critB (matF a.length a.length (shF a r.Den r.Num)) S) a.length a.length).map encA, 0) := M.Conv_bind c2 (M.Conv_ite (fun t => by cases t) (fun _ => M.Conv_bind c4 (M.Conv_ret _)))
    have hN : M.Conv (spec_CriticalNodes a) (toI (nodesC (critB (matF a.length a.length (shF a r.Den r.Num)) S) a.length a.length), 0) := M.Conv_bind c2 (M.Conv_ite (fun t => by cases t) (fun _ => M.Conv_bind (nodes_conv (by omega) c4) (M.Conv_ret _)))
    have hX : M.Conv (impl_CriticalMatrix a) (w.1, w.2) := M.Conv_bind c1 (M.Conv_ret _)
    have eA := M.Conv.unique a1 hA
    have eN := M.Conv.unique n1 hN
    have eX := M.Conv.unique x2 hX
    rw [eA, eN, eX]
    (try simp only)
    rw [ew]
    intro k hk
    rw [List.length_map] at hk
    have hp := (arcsV_mem _ _ _ _).1 (List.getElem_mem hk)
    have hg : ((arcsV (critB (matF a.length a.length (shF a r.Den r.Num)) S) a.length a.length).map encA)[k]? = some (encA (arcsV (critB (matF a.length a.length (shF a r.Den r.Num)) S) a.length a.length)[k]) := by rw [List.getElem?_map, List.getElem?_eq_getElem hk]; rfl
    generalize (arcsV (critB (matF a.length a.length (shF a r.Den r.Num)) S) a.length a.length)[k] = p at hp hg
    obtain ⟨h1, h2, h3⟩ := hp
    have node : ∀ u v, u < a.length → v < a.length → critB (matF a.length a.length (shF a r.Den r.Num)) S u v = true → ((toI (nodesC (critB (matF a.length a.length (shF a r.Den r.Num)) S) a.length a.length)).any fun y => y == (u : Int)) = true := fun u v hu hv hc => by
      rw [List.any_eq_true]
      refine ⟨(u : Int), List.mem_map.2 ⟨u, ?_, rfl⟩, by simp⟩
      unfold nodesC
      rw [List.mem_filter, List.mem_range, List.any_eq_true]
      exact ⟨hu, v, List.mem_range.2 hv, hc⟩
    have out : ∃ y, y < a.length ∧ critB (matF a.length a.length (shF a r.Den r.Num)) S p.2 y = true := by
      obtain ⟨k, w0, hk⟩ := (hC.back hm h2 h1 h3).wlk h2
      cases k with
      | zero =>
        generalize hp1 : p.1 = p1 at *
        cases hk with
        | nil _ => exact ⟨p.2, h2, h3⟩
      | succ k =>
        obtain ⟨y, hy, hya⟩ := hk.first
        exact ⟨y, hy, (hC.arc hm hy h2).1 hya⟩
    obtain ⟨y, hy, hcy⟩ := out
    have hrl := hm.shp.row _ (List.mem_of_getElem? (rowN_get (a := a) (i := p.2) h2))
    have rd := nd_read (l := rowN a p.2) (i := p.1) (by omega)
    rw [nd_row h2] at rd
    refine ⟨p.1, p.2, hg, node _ _ h1 h2 h3, node _ _ h2 hy hcy, _, _, _, idx_tab h2, (idx_tab h1).of (r' := entA a p.2 p.1) ?_, get_row (rowN_get h2), rd⟩
    unfold critF
    rw [h3]; rfl
theorem FnCriticalArcs_ok (code : List Int) (h : fitL inU8 code) : M.Conv (laws_FnCriticalArcs code) true := by
  apply M.TC.conv
  unfold laws_FnCriticalArcs
  refine M.TC_bindC (big_ok code) (M.TC_ite (fun _ => M.TC_ret rfl) (fun hb => ?_))
  have hbc := ByC.of h hb
  refine M.TC_bind (show M.TC (spec_DrawCriticalArcs code) MatS from M.TC_bind (from_ok hbc) fun s hs => M.TC_bind (draw6_ok hbc hs) fun x hx => M.TC_ret hx.1) fun a ha => ?_
  have sa := ha.sm
  obtain ⟨A, a1, a2, aS, _, aP⟩ := arcs_Two a sa
  obtain ⟨N, n1, n2, nS, nP⟩ := nodes_Two a sa
  obtain ⟨X, x1, x2, xS, xP⟩ := matrix_Two a sa
  refine M.TC_bindC a2 (M.TC_bindC a1 (M.TC_bindC n2 (M.TC_bindC n1 (M.TC_bindC x2 (M.TC_bindC x1 (M.TC_bind (DrawIsCriticalCycle_ok hbc) fun d hd => ?_))))))
  obtain ⟨hd1, hd2⟩ := hd
  have sd := hd1.sm
  obtain ⟨B, b1, b2, bP⟩ := critCycle_Two d.1 sd d.2 (by omega)
  have tail := arcs_tail (a := a) (A := A) (N := N) (X := X) (by omega) aS.1 (fun h0 => arcs_tail' sa a1 n1 x2 (aP h0).1 h0)
  have t1 : M.Conv (M.ite (A.2 != A.2) (M.ret true) (M.bind (laws_likeTables9 A.1 A.1) (fun x13 => M.ret (!x13)))) false := M.Conv_ite (fun t => by simp at t) (fun _ => M.Conv_bind (likeTables_refl aS) (M.Conv_ret _))
  have t2 : M.Conv (M.ite (false || (N.2 != N.2)) (M.ret true) (M.bind (laws_likeInts N.1 N.1) (fun x16 => M.ret (!x16)))) false := cmp_list (by omega) _ rfl
  have t3 : M.Conv (M.ite (false || (X.2 != X.2)) (M.ret true) (M.bind (laws_likeTables9 X.1 X.1) (fun x19 => M.ret (!x19)))) false := M.Conv_ite (fun t => by simp at t) (fun _ => M.Conv_bind (likeTables_refl xS) (M.Conv_ret _))
  refine M.TC_bindC b2 (M.TC_bindC b1 (M.TC_bindC t1 (M.TC_bindC t2 (M.TC_bindC t3 (M.TC_ite (fun t => by simp at t) (fun _ => ?_))))))
  refine M.TC_bind (Mid := fun b => b = true → B.2 = 0 ∧ ∃ W, GoodC d.1 d.1.length d.2 W) (M.TC_ite (fun t => ?_) (fun _ => M.TC_ret fun t => by cases t)) fun b hb => M.TC_ite (fun t => ?_) (fun _ => tail.tc rfl)
  · have hB0 : B.2 = 0 := eq_of_beq t
    obtain ⟨r, hr⟩ := bP hB0
    exact M.TC_bind (isCycle_tc sd hr.sq (by omega)) fun b hb => M.TC_ret fun t => ⟨hB0, hb t⟩
  · obtain ⟨hB0, V, hV⟩ := hb t
    obtain ⟨r, hr⟩ := bP hB0
    have hq := hr.sq
    have hm := sq_mat hq
    have hrows := hm.rows
    obtain ⟨A', p1, p2, _, pN, pP⟩ := arcs_Two d.1 sd
    have hV0 := hV
    obtain ⟨c0, ec, hnd, hcl⟩ := hV0
    have hA0 : A'.2 = 0 := Classical.byContradiction fun hne => pN hne hq _ _ hcl
    obtain ⟨_, l, W, r', S, hC, eA⟩ := pP hA0
    obtain ⟨l2, W2, hm2, hr2⟩ := hr.max
    have er : r = r' := hm2.same hC.mc hr2 hC.rp
    subst er
    have hlen := hV.len
    have hcl0 : d.2.length = c0.length := by rw [ec, List.length_map]
    refine M.TC_bindC p2 (M.TC_bind (cyc_loop (cb := critB (matF d.1.length d.1.length (shF d.1 r.Den r.Num)) S) hrows.2 hcl.lt (by omega) ec eA) fun b' hb' => M.TC_ite (fun t => ?_) (fun _ => tail.tc rfl))
    exfalso
    have e : b' = B.1 := by
      rw [Bool.eq_iff_iff, hb', hr.iff, ← cycle_crit hm hC hcl]
      constructor
      · intro e
        exact ⟨V, hV, by rw [hcl0]; exact e⟩
      · rintro ⟨V', hV', e⟩
        have := hV.unique hV'
        subst this
        rw [hcl0] at e; exact e
    rw [e, hA0] at t
    simp at t

end Go.Proofs.YtelopfgolahlpaaGreat
