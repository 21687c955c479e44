/-
  Plain proofs: the plain program of the law ends with true.
  Conditions: None beyond the given statement.
-/
import Derived.Test.YtelopfgolahlpaaGreatB
namespace Go.Proofs.YtelopfgolahlpaaGreat
open Go
def arcB (a : List (List Int)) (p q : Nat) : Bool := p == q || entA a q p != (-1000000000000000)
def warB (r : Nat → Nat → Bool) (k p q : Nat) : Bool := r p q || (r p k && r k q)
def mixB (f g : Nat → Nat → Bool) (i j p q : Nat) : Bool := bif decide (p < i) || (decide (p = i) && decide (q < j)) then g p q else f p q
theorem mix_step {n i j : Nat} {f g : Nat → Nat → Bool} {v : Bool} (hv : v = g i j) : (bmF n (mixB f g i j)).set i ((tab n (mixB f g i j i)).set j v) = bmF n (mixB f g i (j + 1)) := by
  refine bmset (by rw [hv]; simp [mixB]) fun p q _ _ h => ?_
  unfold mixB
  congr 1
  rw [Bool.eq_iff_iff]; simp; omega
theorem mix_row {n i : Nat} {f g : Nat → Nat → Bool} : bmF n (mixB f g i n) = bmF n (mixB f g (i + 1) 0) := by
  refine tab_congr fun p _ => tab_congr fun q hq => ?_
  unfold mixB
  congr 1
  rw [Bool.eq_iff_iff]; simp; omega
theorem mix_zero {n : Nat} {f g : Nat → Nat → Bool} : bmF n (mixB f g 0 0) = bmF n f := tab_congr fun p _ => tab_congr fun q _ => by simp [mixB]
theorem mix_all {n : Nat} {f g : Nat → Nat → Bool} : bmF n (mixB f g n 0) = bmF n g := tab_congr fun p hp => tab_congr fun q _ => by simp [mixB, hp]
def warN (a : List (List Int)) : Nat → Nat → Nat → Bool
  | 0 => arcB a
  | k + 1 => warB (warN a k) k
theorem warN_ok {a : List (List Int)} {n : Nat} : ∀ k, k ≤ n → (∀ v, warN a k v v = true) ∧ (∀ v i, v < n → i < n → arcE a v i → warN a k v i = true) ∧ (∀ v i, v < n → i < n → warN a k v i = true → Rch (arcE a) n v i) ∧ ∀ m v i, m < k → warN a k v m = true → warN a k m i = true → warN a k v i = true
  | 0, _ => ⟨fun v => by simp [warN, arcB], fun v i _ _ h => by
      unfold arcE at h
      simp [warN, arcB, h], fun v i hv hi h => by
      simp only [warN, arcB, Bool.or_eq_true, beq_iff_eq, bne_iff_ne, ne_eq] at h
      rcases h with rfl | h
      · exact .refl _ _ _
      · exact (Rch.refl _ _ _).step hv hi h, fun m v i hm => by omega⟩
  | k + 1, hk => by
    obtain ⟨h1, h2, h3, h4⟩ := warN_ok (a := a) (n := n) k (by omega)
    refine ⟨fun v => by simp [warN, warB, h1], fun v i hv hi h => by simp [warN, warB, h2 v i hv hi h], fun v i hv hi h => ?_, fun m v i hm ha hb => ?_⟩
    · simp only [warN, warB, Bool.or_eq_true, Bool.and_eq_true] at h
      rcases h with h | ⟨h, h'⟩
      · exact h3 v i hv hi h
      · exact (h3 v k hv (by omega) h).trans (h3 k i (by omega) hi h')
    · simp only [warN, warB, Bool.or_eq_true, Bool.and_eq_true] at ha hb ⊢
      have c1 := h4
      by_cases e : m = k
      · subst e
        have ha : warN a m v m = true := ha.elim id fun h => h.1
        have hb : warN a m m i = true := hb.elim id fun h => h.2
        exact .inr ⟨ha, hb⟩
      · have hm' : m < k := by omega
        rcases ha with ha | ⟨ha, ha'⟩
        · rcases hb with hb | ⟨hb, hb'⟩
          · exact .inl (h4 m v i hm' ha hb)
          · exact .inr ⟨h4 m v k hm' ha hb, hb'⟩
        · rcases hb with hb | ⟨hb, hb'⟩
          · exact .inr ⟨ha, h4 m k i hm' ha' hb⟩
          · exact .inr ⟨ha, hb'⟩
theorem war_reach {a : List (List Int)} {n v i : Nat} (hv : v < n) (hi : i < n) : warN a n v i = true ↔ Rch (arcE a) n v i := by
  obtain ⟨h1, h2, h3, h4⟩ := warN_ok (a := a) (n := n) n (Nat.le_refl _)
  refine ⟨h3 v i hv hi, fun ⟨k, h⟩ => ?_⟩
  induction h with
  | nil => exact h1 v
  | step k j i hj hjn hin he ih => exact h4 j v i hjn (ih hjn ⟨k, hj⟩) (h2 j i hjn hin he)
theorem war_keep {a : List (List Int)} {n k : Nat} (hk : k < n) {i j p q : Nat} (h : p = k ∨ q = k) : mixB (warN a k) (warB (warN a k) k) i j p q = warN a k p q := by
  have h1 := (warN_ok (a := a) (n := n) k (by omega)).1 k
  unfold mixB
  have : warB (warN a k) k p q = warN a k p q := by
    unfold warB
    rcases h with rfl | rfl
    · rw [h1]; simp
    · rw [h1]; simp
  rw [this]
  cases decide (p < i) || (decide (p = i) && decide (q < j)) <;> rfl
theorem mix_ne {f g : Nat → Nat → Bool} {i j p q : Nat} (h : ¬ (p < i ∨ (p = i ∧ q < j))) : mixB f g i j p q = f p q := by
  unfold mixB
  rw [show (decide (p < i) || (decide (p = i) && decide (q < j))) = false by rw [Bool.eq_false_iff]; simp; omega]; rfl
theorem reaching_ok {a : List (List Int)} (hs : Shp a a.length) : M.Conv (impl_reaching a) (bmF a.length (warN a a.length)) := by
  have hn := hs.rows
  have rdA : ∀ i j : Nat, i < a.length → j < a.length → M.Conv (M.idx a (i : Int)) (rowN a i) ∧ M.Conv (M.idx (rowN a i) (j : Int)) (entA a i j) := fun i j hi hj => by
    have hrl := hs.row _ (List.mem_of_getElem? (rowN_get (a := a) (i := i) hi))
    have g2 := nd_read (l := rowN a i) (i := j) (by omega)
    rw [nd_row hi] at g2
    exact ⟨get_row (rowN_get hi), g2⟩
  unfold impl_reaching
  refine M.Conv_bind ((M.Conv_make (by omega) (by omega)).of (r' := tab a.length fun p => bif decide (p < 0) then tab a.length (arcB a p) else []) (by rw [Int.toNat_natCast, tab_rep]; exact tab_congr fun i _ => by simp)) ?_
  rw [tab_len]
  refine M.Conv_bind (x := bmF a.length (arcB a)) ((Conv_forV (fun i => tab a.length fun p => bif decide (p < i) then tab a.length (arcB a p) else []) (by omega) fun i hi => ?_).of (tab_congr fun p hp => by rw [decide_eq_true hp]; rfl)) ?_
  · refine M.Conv_bind ((M.Conv_make (by omega) (by omega)).of (r' := tab a.length fun _ => false) (by rw [Int.toNat_natCast, tab_rep])) ?_
    let st : Nat → List (List Bool) := fun j => tab a.length fun p => if p = i then tab a.length (fun q => bif decide (q < j) then arcB a i q else false) else (bif decide (p < i) then tab a.length (arcB a p) else [])
    refine M.Conv_bind (idx_tab hi) (M.Conv_bind (x := st 0) ((M.Conv_upd (by rw [tab_len]; exact hi)).of (tab_set (by rw [if_pos rfl]; exact tab_congr fun q _ => by simp) fun p _ hp => by rw [if_neg hp])) (M.Conv_bind (x := st a.length) (Conv_forV st (by omega) fun j hj => ?_) ((M.Conv_ret _).of (congrArg Sum.inl (tab_congr fun p hp => ?_)))))
    · have hrow : M.Conv (M.idx (st j) (i : Int)) (tab a.length fun q => bif decide (q < j) then arcB a i q else false) := (idx_tab hi).of (if_pos rfl)
      have hset : ∀ v, v = arcB a i j → (st j).set i ((tab a.length fun q => bif decide (q < j) then arcB a i q else false).set j v) = st (j + 1) := fun v hv => by
        refine tab_set ?_ fun p _ hp => by simp only [if_neg hp]
        rw [if_pos rfl]
        refine tab_set (by simp [hv]) fun q _ hq => ?_
        congr 1
        rw [Bool.eq_iff_iff]; simp; omega
      refine M.Conv_bind (x := st (j + 1)) (M.Conv_bind hrow (M.Conv_ite (fun t => ?_) (fun t => ?_))) (M.Conv_ret _)
      · have e : i = j := by have := eq_of_beq t; omega
        exact M.Conv_bind (idx_tab hj) (M.Conv_bind (M.Conv_upd (by rw [tab_len]; exact hj)) ((M.Conv_ret _).of (hset _ (by simp [arcB, e]))))
      · have e : i ≠ j := fun e => by rw [e] at t; simp at t
        exact M.Conv_bind (rdA j i hj hi).1 (M.Conv_bind (rdA j i hj hi).2 (M.Conv_bind (idx_tab hj) (M.Conv_bind (M.Conv_upd (by rw [tab_len]; exact hj)) ((M.Conv_ret _).of (hset _ (by simp [arcB, e]))))))
    · by_cases e : p = i
      · rw [if_pos e, e, show decide (i < i + 1) = true by simp]
        exact tab_congr fun q hq => by rw [decide_eq_true hq]; rfl
      · rw [if_neg e]
        congr 1
        rw [Bool.eq_iff_iff]; simp; omega
  · refine M.Conv_bind (x := bmF a.length (warN a a.length)) (Conv_forV (fun k => bmF a.length (warN a k)) (by omega) fun k hk => ?_) (M.Conv_ret _)
    have e0 : bmF a.length (warN a k) = bmF a.length (mixB (warN a k) (warN a (k + 1)) 0 0) := mix_zero.symm
    rw [e0]
    refine M.Conv_bind ((Conv_forV (fun i => bmF a.length (mixB (warN a k) (warN a (k + 1)) i 0)) (by omega) fun i hi => ?_).of mix_all) (M.Conv_ret _)
    refine M.Conv_bind (Conv_forV (fun j => bmF a.length (mixB (warN a k) (warN a (k + 1)) i j)) (by omega) fun j hj => ?_) ((M.Conv_ret _).of (congrArg Sum.inl mix_row))
    have k1 : mixB (warN a k) (warN a (k + 1)) i j i j = warN a k i j := mix_ne (by omega)
    have k2 : mixB (warN a k) (warN a (k + 1)) i j i k = warN a k i k := war_keep hk (.inr rfl)
    have k3 : mixB (warN a k) (warN a (k + 1)) i j k j = warN a k k j := war_keep hk (.inl rfl)
    have upd : ∀ v, v = warN a (k + 1) i j → M.Conv (M.upd (tab a.length (mixB (warN a k) (warN a (k + 1)) i j i)) (j : Int) v) ((tab a.length (mixB (warN a k) (warN a (k + 1)) i j i)).set j v) ∧ (bmF a.length (mixB (warN a k) (warN a (k + 1)) i j)).set ((i : Int)).toNat ((tab a.length (mixB (warN a k) (warN a (k + 1)) i j i)).set j v) = bmF a.length (mixB (warN a k) (warN a (k + 1)) i (j + 1)) := fun v hv => ⟨M.Conv_upd (by rw [tab_len]; exact hj), by rw [Int.toNat_natCast]; exact mix_step hv⟩
    refine M.Conv_bind (x := bmF a.length (mixB (warN a k) (warN a (k + 1)) i (j + 1))) (M.Conv_bind (idx_tab hk) (M.Conv_bind (idx_tab hi) (M.Conv_bind (idx_tab hi) (M.Conv_bind ((idx_tab hj).of k1) (M.Conv_ite (fun t => ?_) (fun t => M.Conv_bind ((idx_tab hk).of k2) (M.Conv_ite (fun t2 => ?_) (fun t2 => ?_)))))))) (M.Conv_ret _)
    · obtain ⟨u1, u2⟩ := upd true (by simp [warN, warB, t])
      exact M.Conv_bind (idx_tab hj) (M.Conv_bind u1 ((M.Conv_ret _).of u2))
    · obtain ⟨u1, u2⟩ := upd (warN a k k j) (by simp [warN, warB, t, t2])
      exact M.Conv_bind ((idx_tab hj).of k3) (M.Conv_bind (idx_tab hj) (M.Conv_bind u1 ((M.Conv_ret _).of u2)))
    · obtain ⟨u1, u2⟩ := upd false (by simp [warN, warB, t, t2])
      exact M.Conv_bind (idx_tab hj) (M.Conv_bind u1 ((M.Conv_ret _).of u2))
theorem compsF_congr {n : Nat} {r r' : Nat → Nat → Bool} (h : ∀ v i, v < n → i < n → r v i = r' v i) : compsF r n = compsF r' n := by
  have hc : ∀ v, v < n → compF r n v = compF r' n v := fun v hv => by
    unfold compF
    congr 1
    refine List.filter_congr fun w hw => ?_
    have hw := List.mem_range.1 hw
    rw [h v w hv hw, h w v hw hv]
  unfold compsF
  rw [List.filter_congr (q := fun (v : Nat) => (compF r' n v).head? == some (v : Int)) fun v hv => by rw [hc v (List.mem_range.1 hv)]]
  exact List.map_congr_left fun v hv => hc v (List.mem_range.1 (List.mem_filter.1 hv).1)
/-- the components by both roads -/
theorem components_both {a : List (List Int)} (hs : Shp a a.length) : ∃ r : Nat → Nat → Bool, M.Conv (spec_l05Components a) (compsF r a.length) ∧ M.Conv (impl_componentsOf a) (compsF r a.length) ∧ ∀ v i, v < a.length → i < a.length → (r v i = true ↔ Rch (arcE a) a.length v i) := by
  obtain ⟨r, h1, h2⟩ := spec_l05Components_ok hs
  have hn := hs.rows
  refine ⟨r, h1, ?_, h2⟩
  rw [compsF_congr (r' := warN a a.length) fun v i hv hi => by rw [Bool.eq_iff_iff, h2 v i hv hi, war_reach hv hi]]
  unfold impl_componentsOf
  exact M.Conv_bind (reaching_ok hs) (comps_ok (by omega) fun v hv => (war_reach hv hv).2 (Rch.refl _ _ _))

theorem CritP.arc {a : List (List Int)} (hm : Mat a a.length) {l : List Nat} {W : Int} {r : TRatio} {S : List (List Int)} (h : CritP a l W r S) {i k : Nat} (hi : i < a.length) (hk : k < a.length) : arcE (matF a.length a.length (critF (matF a.length a.length (shF a r.Den r.Num)) S a)) k i ↔ critB (matF a.length a.length (shF a r.Den r.Num)) S k i = true := by
  unfold arcE
  rw [entA_matF hi hk]
  unfold critF
  obtain ⟨e1, e2⟩ := h.ent hm hi hk
  have hci := critB_iff e1 e2
  cases c : critB (matF a.length a.length (shF a r.Den r.Num)) S k i with
  | false => simp
  | true =>
    obtain ⟨q1, _, _⟩ := hci.1 c
    simp only [cond_true, iff_true]
    rcases h.sh.val hi hk with e | e
    · exact absurd e.2 q1
    · exact e.1
theorem CritP.on {a : List (List Int)} (hm : Mat a a.length) {l : List Nat} {W : Int} {r : TRatio} {S : List (List Int)} (h : CritP a l W r S) {i j : Nat} (hi : i < a.length) (hj : j < a.length) {b0 : Int} (hb : entA (matF a.length a.length (shF a r.Den r.Num)) i j = b0) (hne : b0 ≠ -1000000000000000) :
    ∀ {m x : Nat} {w1 : Int}, Wlk (matF a.length a.length (shF a r.Den r.Num)) a.length i m x w1 → ∀ {m2 : Nat} {w2 : Int}, Wlk (matF a.length a.length (shF a r.Den r.Num)) a.length x m2 j w2 → w1 + w2 + b0 = 0 → Rch (arcE (matF a.length a.length (critF (matF a.length a.length (shF a r.Den r.Num)) S a))) a.length i x := by
  intro m x w1 h1
  induction h1 with
  | nil _ => intro m2 w2 _ _; exact .refl _ _ _
  | step m y x w0 hw hx ha ih =>
    intro m2 w2 h2 hsum
    have hy := hw.lt.2
    -- from y on: the arc, then the rest
    have hrest : Wlk (matF a.length a.length (shF a r.Den r.Num)) a.length y (1 + m2) j (entA (matF a.length a.length (shF a r.Den r.Num)) x y + w2) := by
      have := Wlk.step 0 y x 0 (.nil hy) hx ha
      rw [Int.zero_add] at this
      exact Wlk.trans (k := 1) this h2
    have hr := ih hrest (by omega)
    refine hr.step hy hx ((h.arc hm hx hy).2 ?_)
    obtain ⟨e1, e2⟩ := h.ent hm hx hy
    -- back from x to y
    have hback : Wlk (matF a.length a.length (shF a r.Den r.Num)) a.length x (m2 + 1 + m) y (w2 + b0 + w0) := by
      have := Wlk.step m2 j i w2 h2 hi (by rw [hb]; exact hne)
      rw [hb] at this
      exact this.trans hw
    obtain ⟨c1, c2⟩ := h.st.cpl y x _ _ hback
    obtain ⟨k, hk⟩ := (h.st.snd y x hy hx).resolve_left c1
    have hcl := h.np.closed (Wlk.step k y x _ hk hx ha)
    exact (critB_iff e1 e2).2 ⟨ha, c1, by omega⟩
theorem CritP.back {a : List (List Int)} (hm : Mat a a.length) {l : List Nat} {W : Int} {r : TRatio} {S : List (List Int)} (h : CritP a l W r S) {i j : Nat} (hi : i < a.length) (hj : j < a.length) (hc : critB (matF a.length a.length (shF a r.Den r.Num)) S j i = true) : Rch (arcE (matF a.length a.length (critF (matF a.length a.length (shF a r.Den r.Num)) S a))) a.length i j := by
  obtain ⟨e1, e2⟩ := h.ent hm hi hj
  obtain ⟨q1, q2, q3⟩ := (critB_iff e1 e2).1 hc
  obtain ⟨k, hk⟩ := (h.st.snd j i hj hi).resolve_left q2
  exact h.on hm hi hj rfl q1 hk (.nil hj) (by omega)
/-- a component keeps its first node's arcs -/
theorem CritP.keep {a : List (List Int)} (hm : Mat a a.length) {l : List Nat} {W : Int} {r : TRatio} {S : List (List Int)} (h : CritP a l W r S) {rr : Nat → Nat → Bool} (hr : ∀ v i, v < a.length → i < a.length → (rr v i = true ↔ Rch (arcE (matF a.length a.length (critF (matF a.length a.length (shF a r.Den r.Num)) S a))) a.length v i)) {v : Nat} (hv : v < a.length) :
    (∃ i, i < a.length ∧ critB (matF a.length a.length (shF a r.Den r.Num)) S v i = true) ↔ ¬ ((compF rr a.length v).length = 1 ∧ critB (matF a.length a.length (shF a r.Den r.Num)) S v v = false) := by
  have hvv : (v : Int) ∈ compF rr a.length v := compF_mem.2 ⟨v, rfl, hv, (hr v v hv hv).2 (.refl _ _ _), (hr v v hv hv).2 (.refl _ _ _)⟩
  constructor
  · rintro ⟨i, hi, hc⟩ ⟨h1, h2⟩
    have a1 : rr v i = true := (hr v i hv hi).2 ((Rch.refl _ _ _).step hv hi ((h.arc hm hi hv).2 hc))
    have a2 : rr i v = true := (hr i v hi hv).2 (h.back hm hi hv hc)
    have him : (i : Int) ∈ compF rr a.length v := compF_mem.2 ⟨i, rfl, hi, a1, a2⟩
    obtain ⟨x, hx⟩ := List.length_eq_one_iff.1 h1
    rw [hx, List.mem_singleton] at hvv him
    have : i = v := by omega
    rw [this] at hc
    rw [hc] at h2; cases h2
  · intro hno
    by_cases hself : critB (matF a.length a.length (shF a r.Den r.Num)) S v v = true
    · exact ⟨v, hv, hself⟩
    · have hlen : (compF rr a.length v).length ≠ 1 := fun e => hno ⟨e, by simpa using hself⟩
      -- another node of the component
      have : ∃ u, u < a.length ∧ u ≠ v ∧ rr v u = true := by
        apply Classical.byContradiction
        intro hnone
        refine hlen ?_
        have e : compF rr a.length v = [(v : Int)] := by
          unfold compF
          have : ((List.range a.length).filter fun w => rr v w && rr w v) = [v] := by
            have hvm : v ∈ (List.range a.length).filter fun w => rr v w && rr w v := by
              rw [List.mem_filter]
              exact ⟨List.mem_range.2 hv, by rw [(hr v v hv hv).2 (.refl _ _ _)]; rfl⟩
            have hall : ∀ w ∈ (List.range a.length).filter fun w => rr v w && rr w v, w = v := fun w hw => by
              rw [List.mem_filter, List.mem_range, Bool.and_eq_true] at hw
              exact Classical.byContradiction fun hne => hnone ⟨w, hw.1, hne, hw.2.1⟩
            have hnd : ((List.range a.length).filter fun w => rr v w && rr w v).Nodup := List.nodup_range.filter _
            revert hvm hall hnd
            generalize (List.range a.length).filter (fun w => rr v w && rr w v) = L
            intro hvm hall hnd
            cases L with
            | nil => simp at hvm
            | cons x L =>
              have hx := hall x List.mem_cons_self
              cases L with
              | nil => rw [hx]
              | cons y L =>
                have hy := hall y (by simp)
                rw [hx, hy] at hnd
                simp at hnd
          rw [this]; rfl
        rw [e]; rfl
      obtain ⟨u, hu, hne, hru⟩ := this
      obtain ⟨k, hk⟩ := (hr v u hv hu).1 hru
      -- the first arc of the way from v
      have first : ∀ {k u : Nat}, RK (arcE (matF a.length a.length (critF (matF a.length a.length (shF a r.Den r.Num)) S a))) a.length v k u → u ≠ v → ∃ i, i < a.length ∧ critB (matF a.length a.length (shF a r.Den r.Num)) S v i = true := by
        intro k u hk
        induction hk with
        | nil k => intro hne; exact absurd rfl hne
        | step k j i _ hj hi he ih =>
          intro _
          by_cases e : j = v
          · subst e
            exact ⟨i, hi, (h.arc hm hi hj).1 he⟩
          · exact ih e
      exact first hk hne

def firsts (L : List (Nat × Nat)) (o : List Nat) : List Nat := L.foldl (fun o p => if p.1 ∈ o then o else o ++ [p.1]) o
theorem firsts_snoc (L : List (Nat × Nat)) (p : Nat × Nat) (o : List Nat) : firsts (L ++ [p]) o = if p.1 ∈ firsts L o then firsts L o else firsts L o ++ [p.1] := by
  unfold firsts; rw [List.foldl_append]; rfl
theorem firsts_app (L M : List (Nat × Nat)) (o : List Nat) : firsts (L ++ M) o = firsts M (firsts L o) := by
  unfold firsts; rw [List.foldl_append]
theorem firsts_len : ∀ (L : List (Nat × Nat)) (o : List Nat), (firsts L o).length ≤ o.length + L.length
  | [], o => by simp [firsts]
  | p :: L, o => by
    show (firsts L (if p.1 ∈ o then o else o ++ [p.1])).length ≤ _
    by_cases e : p.1 ∈ o
    · rw [if_pos e]
      have := firsts_len L o
      simp only [List.length_cons]; omega
    · rw [if_neg e]
      have := firsts_len L (o ++ [p.1])
      simp only [List.length_cons, List.length_append, List.length_nil] at this ⊢; omega
theorem firsts_in {j : Nat} : ∀ (L : List (Nat × Nat)) (o : List Nat), (∀ p ∈ L, p.1 = j) → j ∈ o → firsts L o = o
  | [], o, _, _ => rfl
  | p :: L, o, h, hj => by
    show firsts L (if p.1 ∈ o then o else o ++ [p.1]) = o
    rw [if_pos (by rw [h p List.mem_cons_self]; exact hj)]
    exact firsts_in L o (fun q hq => h q (List.mem_cons_of_mem _ hq)) hj
def nodesC (c : Nat → Nat → Bool) (n m : Nat) : List Nat := (List.range m).filter fun j => (List.range n).any (c j)
theorem firsts_arcs (c : Nat → Nat → Bool) (n : Nat) : ∀ m, firsts (arcsV c n m) [] = nodesC c n m
  | 0 => rfl
  | m + 1 => by
    rw [arcsV, firsts_app, firsts_arcs c n m]
    have hout : m ∉ nodesC c n m := fun h => by
      unfold nodesC at h
      rw [List.mem_filter, List.mem_range] at h
      omega
    have hall : ∀ p ∈ arcsR c m n, p.1 = m := fun p hp => by
      unfold arcsR at hp
      obtain ⟨i, _, rfl⟩ := List.mem_map.1 hp
      rfl
    have hmem : ∀ i, (m, i) ∈ arcsR c m n ↔ i < n ∧ c m i = true := fun i => by
      unfold arcsR
      simp only [List.mem_map, List.mem_filter, List.mem_range]
      constructor
      · rintro ⟨q, hq, e⟩
        have : q = i := by simpa using congrArg Prod.snd e
        rw [← this]; exact hq
      · exact fun h => ⟨i, h, rfl⟩
    unfold nodesC at hout ⊢
    rw [List.range_succ, List.filter_append]
    cases hany : (List.range n).any (c m) with
    | true =>
      have e2 : [m].filter (fun j => (List.range n).any (c j)) = [m] := by simp only [List.filter_cons, hany, if_true, List.filter_nil]
      rw [e2]
      rw [List.any_eq_true] at hany
      obtain ⟨i, hi, hc⟩ := hany
      have h1 := (hmem i).2 ⟨List.mem_range.1 hi, hc⟩
      cases hL : arcsR c m n with
      | nil => rw [hL] at h1; simp at h1
      | cons p L =>
        have hp := hall p (by rw [hL]; exact List.mem_cons_self)
        show firsts L (if p.1 ∈ _ then _ else _) = _
        rw [hp, if_neg hout]
        exact firsts_in L _ (fun q hq => hall q (by rw [hL]; exact List.mem_cons_of_mem _ hq)) (by simp)
    | false =>
      have e2 : [m].filter (fun j => (List.range n).any (c j)) = [] := by simp only [List.filter_cons, hany, Bool.false_eq_true, if_false, List.filter_nil]
      rw [e2, List.append_nil]
      have : arcsR c m n = [] := by
        unfold arcsR
        rw [List.map_eq_nil_iff, List.filter_eq_nil_iff]
        intro i hi hc
        rw [← Bool.not_eq_true, List.any_eq_true] at hany
        exact hany ⟨i, hi, hc⟩
      rw [this]; rfl
theorem nodes_conv {a : List (List Int)} {c : Nat → Nat → Bool} {n : Nat} (hn : n ≤ 10) (h : M.Conv (spec_l06Arcs a) ((arcsV c n n).map encA)) : M.Conv (spec_l06Nodes a) (toI (nodesC c n n)) := by
  have hlen := arcsV_len c n n
  have hnn : n * n ≤ 100 := Nat.mul_le_mul hn hn
  rw [← firsts_arcs c n n]
  generalize arcsV c n n = L at h hlen
  unfold spec_l06Nodes
  refine M.Conv_bind h (M.Conv_bind (x := toI (firsts L [])) ?_ (M.Conv_ret _))
  have e : toI (firsts L []) = toI (firsts (L.take L.length) []) := by rw [List.take_length]
  rw [e, List.length_map]
  refine Conv_forV (fun k => toI (firsts (L.take k) [])) (by omega) fun k hk => ?_
  have ht : L.take (k + 1) = L.take k ++ [L[k]] := by rw [List.take_add_one]; simp [hk]
  have hp : M.Conv (M.idx (L.map encA) (k : Int)) (encA L[k]) := M.Conv_idx (by simp [hk])
  have hfl := firsts_len (L.take k) []
  rw [List.length_take, List.length_nil] at hfl
  simp only [ht, firsts_snoc]
  generalize L[k] = p at *
  have hx : M.Conv (M.idx (encA p) 0) (p.1 : Int) := M.Conv_idx (i := 0) rfl
  have hhas := l01Has_ok (l := toI (firsts (L.take k) [])) (p.1 : Int) (by rw [List.length_map]; omega)
  have hb : ((toI (firsts (L.take k) [])).any fun y => y == (p.1 : Int)) = decide (p.1 ∈ firsts (L.take k) []) := by
    rw [Bool.eq_iff_iff, List.any_eq_true, decide_eq_true_eq]
    constructor
    · rintro ⟨y, hy, e⟩
      rw [eq_of_beq e] at hy
      exact toI_mem.1 hy
    · exact fun hm => ⟨_, toI_mem.2 hm, by simp⟩
  rw [hb] at hhas
  refine M.Conv_bind hp (M.Conv_bind hx (M.Conv_bind hhas (M.Conv_bind (x := toI (if p.1 ∈ firsts (L.take k) [] then firsts (L.take k) [] else firsts (L.take k) [] ++ [p.1])) (M.Conv_ite (fun t => ?_) (fun t => ?_)) (M.Conv_ret _))))
  · have t : p.1 ∉ firsts (L.take k) [] := by simpa using t
    rw [if_neg t]
    exact M.Conv_bind hp (M.Conv_bind hx (M.Conv_bind ((M.Conv_app (by simp; omega)).of (by simp)) (M.Conv_ret _)))
  · have t : p.1 ∈ firsts (L.take k) [] := by simpa using t
    rw [if_pos t]
    exact M.Conv_ret _

theorem find_row {s : List (List Int)} {del : List (List Int)} {p : List Int → Bool} (hs : s.length ≤ 1099511627776) (hp : ∀ x ∈ s, M.Conv (impl_criticalComponents_1 x del) (p x)) :
    M.TC (slices_IndexFunc_row_F_impl_criticalComponents_1 s del) (fun q => (q = -1 ∧ ∀ x ∈ s, p x = false) ∨ ∃ (i : Nat) (x : List Int), q = i ∧ s[i]? = some x ∧ p x = true ∧ ∀ y ∈ s.take i, p y = false) := by
  unfold slices_IndexFunc_row_F_impl_criticalComponents_1
  refine M.TC_bind (M.TC_forE (fun k (_ : Unit) => ∀ y ∈ s.take k, p y = false) (fun q => ∃ (i : Nat) (x : List Int), q = (i : Int) ∧ s[i]? = some x ∧ p x = true ∧ ∀ y ∈ s.take i, p y = false) (by omega) (by simp) (fun i u hi hI => ?_)) fun y hy => ?_
  · have hx := List.getElem?_eq_getElem hi
    have c := hp s[i] (List.getElem_mem hi)
    have e : s.take (i + 1) = s.take i ++ [s[i]] := by rw [List.take_add_one]; simp [hi]
    generalize s[i] = x at hx c e
    refine M.TC_bindC (M.Conv_idx hx) (M.TC_bindC c (M.TC_ite (fun t => M.TC_ret (.inr ⟨_, rfl, i, x, rfl, hx, t, hI⟩)) (fun t => M.TC_ret (.inl ⟨_, rfl, fun y hy => ?_⟩))))
    rw [e, List.mem_append, List.mem_singleton] at hy
    rcases hy with hy | rfl
    · exact hI y hy
    · exact t
  · rcases hy with ⟨u, rfl, h⟩ | ⟨r, rfl, h⟩
    · exact M.TC_ret (.inl ⟨rfl, fun x hx => h x (by rw [List.take_of_length_le (Nat.le_refl _)]; exact hx)⟩)
    · exact M.TC_ret (.inr h)
theorem del_ok {s : List (List Int)} {del : List (List Int)} {p : List Int → Bool} (hs : s.length ≤ 1099511627776) (hp : ∀ x ∈ s, M.Conv (impl_criticalComponents_1 x del) (p x)) :
    M.Conv (slices_DeleteFunc_row_F_impl_criticalComponents_1 s del) (s.filter fun x => !p x) := by
  apply M.TC.conv
  unfold slices_DeleteFunc_row_F_impl_criticalComponents_1
  refine M.TC_bind (find_row hs hp) fun q hq => ?_
  rcases hq with ⟨rfl, h⟩ | ⟨i, x, rfl, hx, hpx, h⟩
  · exact M.TC_ite (fun _ => M.TC_ret (List.filter_eq_self.2 fun y hy => by rw [h y hy]; rfl).symm) (fun t => by simp at t)
  · have hi := (List.getElem?_eq_some_iff.1 hx).1
    refine M.TC_ite (fun t => by have := eq_of_beq t; omega) (fun _ => ?_)
    rw [w64_eq _ (by omega)]
    refine M.TC_bind (M.TC_for (Post := fun (y : List (List Int) × Int) => ∃ k : Nat, y.2 = k ∧ k ≤ s.length ∧ y.1.length = s.length ∧ y.1.take k = s.filter fun x => !p x) (fun j (y : List (List Int) × Int) => ∃ k m : Nat, y.2 = k ∧ j = m ∧ k ≤ m ∧ m ≤ s.length ∧ y.1.length = s.length ∧ y.1.take k = ((s.take m).filter fun x => !p x) ∧ y.1.drop m = s.drop m) (s, (i : Int)) (by omega) (by omega) ⟨i, i + 1, rfl, by omega, by omega, by omega, rfl, ?_, rfl⟩ (fun j y h1 h2 hI => ?_) (fun j y hj hI => ?_)) fun y hy => ?_
    · rw [List.take_add_one, hx, List.filter_append, List.filter_eq_self.2 fun y hy => by rw [h y hy]; rfl]
      simp [hpx]
    · obtain ⟨L, k'⟩ := y
      obtain ⟨k, m, rfl, rfl, h3, h4, h5, h6, h7⟩ := hI
      simp only at h5 h6 h7
      have hm : m < s.length := by omega
      have hget : L[m]? = some s[m] := by
        have e1 : (L.drop m)[0]? = (s.drop m)[0]? := by rw [h7]
        rw [List.getElem?_drop, List.getElem?_drop, Nat.add_zero, List.getElem?_eq_getElem hm] at e1
        exact e1
      have c := hp s[m] (List.getElem_mem hm)
      have e : s.take (m + 1) = s.take m ++ [s[m]] := by rw [List.take_add_one]; simp [hm]
      have h8 : L.drop (m + 1) = s.drop (m + 1) := by
        have := congrArg (List.drop 1) h7
        rwa [List.drop_drop, List.drop_drop] at this
      generalize s[m] = x' at hget c e
      refine M.TC_bindC (M.Conv_idx hget) (M.TC_bindC c ?_)
      cases hpx' : p x' with
      | true =>
        refine M.TC_bindC (x := (L, (k : Int))) (M.Conv_ite (fun t => by cases t) (fun _ => M.Conv_ret _)) (M.TC_ret (.inl ⟨_, rfl, k, m + 1, rfl, by omega, by omega, by omega, h5, ?_, h8⟩))
        rw [e, List.filter_append, h6]
        simp [hpx']
      | false =>
        have hk : k < L.length := by omega
        refine M.TC_bindC (x := (L.set k x', (k : Int) + 1)) (M.Conv_ite (fun _ => M.Conv_bind (M.Conv_idx (List.getElem?_eq_getElem hk)) (M.Conv_bind (M.Conv_upd hk) ((M.Conv_ret _).of ?_))) (fun t => by cases t)) (M.TC_ret (.inl ⟨_, rfl, k + 1, m + 1, by simp, by omega, by omega, by omega, by simpa using h5, ?_, ?_⟩))
        · rw [w64_eq _ (by omega)]
        · simp only
          rw [e, List.filter_append, ← h6, List.take_add_one, List.getElem?_set_self hk, List.take_set_of_le (Nat.le_refl _)]
          simp [hpx']
        · simp only
          rw [List.drop_set_of_lt (by omega)]; exact h8
    · obtain ⟨k, m, h1, rfl, h3, h4, h5, h6, h7⟩ := hI
      have : m = s.length := by omega
      subst this
      rw [List.take_of_length_le (Nat.le_refl _)] at h6
      exact ⟨k, h1, h3, h5, h6⟩
    · obtain ⟨L, k'⟩ := y
      obtain ⟨k, rfl, h1, h2, h3⟩ := hy
      simp only at h2 h3
      have hlk : (L.take k).length = k := by rw [List.length_take]; omega
      refine M.TC_bindC (M.Conv_sub (by omega) (by show (k : Int) ≤ (s.length : Int); omega) (by show (s.length : Int) ≤ (L.length : Int); omega)) (M.TC_bindC (M.Conv_sub (by omega) (by omega) (by simp; omega)) (M.TC_ret ?_))
      simp only [Int.toNat_zero, List.drop_zero, Int.toNat_natCast, Nat.sub_zero]
      have e3 : (L.take k ++ List.replicate (s.length - k) []).take k = L.take k := by rw [List.take_append_of_le_length (by omega), List.take_of_length_le (by omega)]
      exact e3.trans h3
/-- the components that have an arc -/
def keepF (rr : Nat → Nat → Bool) (c : Nat → Nat → Bool) (n : Nat) : List (List Int) := ((List.range n).filter fun v => ((compF rr n v).head? == some (v : Int)) && (List.range n).any (c v)).map (compF rr n)
theorem lcomps_both {a : List (List Int)} (hm : Mat a a.length) {l : List Nat} {W : Int} {r : TRatio} {S : List (List Int)} (h : CritP a l W r S) (hmat : M.Conv (spec_l06Matrix a) (matF a.length a.length (critF (matF a.length a.length (shF a r.Den r.Num)) S a)))
    (harc : M.Conv (spec_l06Arcs a) ((arcsV (critB (matF a.length a.length (shF a r.Den r.Num)) S) a.length a.length).map encA)) :
    ∃ rr : Nat → Nat → Bool, (∀ v i, v < a.length → i < a.length → (rr v i = true ↔ Rch (arcE (matF a.length a.length (critF (matF a.length a.length (shF a r.Den r.Num)) S a))) a.length v i)) ∧
      M.Conv (impl_criticalComponents (matF a.length a.length (critF (matF a.length a.length (shF a r.Den r.Num)) S a))) (keepF rr (critB (matF a.length a.length (shF a r.Den r.Num)) S) a.length) ∧
      M.Conv (spec_l06Components a) (keepF rr (critB (matF a.length a.length (shF a r.Den r.Num)) S) a.length) := by
  have hrows := hm.rows
  have hnodes := nodes_conv (by omega) harc
  have harcs : ∀ {i k : Nat}, i < a.length → k < a.length → (arcE (matF a.length a.length (critF (matF a.length a.length (shF a r.Den r.Num)) S a)) k i ↔ critB (matF a.length a.length (shF a r.Den r.Num)) S k i = true) := fun hi hk => h.arc hm hi hk
  have hkeep := fun {rr : Nat → Nat → Bool} (hr : ∀ v i, v < a.length → i < a.length → (rr v i = true ↔ Rch (arcE (matF a.length a.length (critF (matF a.length a.length (shF a r.Den r.Num)) S a))) a.length v i)) {v : Nat} (hv : v < a.length) => h.keep hm hr hv
  generalize critB (matF a.length a.length (shF a r.Den r.Num)) S = c at *
  have hC : ∀ {i j : Nat}, i < a.length → j < a.length → M.Conv (M.idx (matF a.length a.length (critF (matF a.length a.length (shF a r.Den r.Num)) S a)) (i : Int)) (rowN (matF a.length a.length (critF (matF a.length a.length (shF a r.Den r.Num)) S a)) i) ∧ M.Conv (M.idx (rowN (matF a.length a.length (critF (matF a.length a.length (shF a r.Den r.Num)) S a)) i) (j : Int)) (entA (matF a.length a.length (critF (matF a.length a.length (shF a r.Den r.Num)) S a)) i j) := fun {i j} hi hj => by
    have hs : Shp (matF a.length a.length (critF (matF a.length a.length (shF a r.Den r.Num)) S a)) a.length := shp_of (by omega) (by omega)
    have hl := matF_len a.length a.length (critF (matF a.length a.length (shF a r.Den r.Num)) S a)
    have hrl := hs.row _ (List.mem_of_getElem? (rowN_get (a := matF a.length a.length (critF (matF a.length a.length (shF a r.Den r.Num)) S a)) (i := i) (by omega)))
    have g2 := nd_read (l := rowN (matF a.length a.length (critF (matF a.length a.length (shF a r.Den r.Num)) S a)) i) (i := j) (by omega)
    rw [nd_row (by omega)] at g2
    exact ⟨get_row (rowN_get (by omega)), g2⟩
  have hsC : Shp (matF a.length a.length (critF (matF a.length a.length (shF a r.Den r.Num)) S a)) a.length := shp_of (by omega) (by omega)
  have hlC := matF_len a.length a.length (critF (matF a.length a.length (shF a r.Den r.Num)) S a)
  generalize matF a.length a.length (critF (matF a.length a.length (shF a r.Den r.Num)) S a) = C at *
  obtain ⟨rr, k1, k2, k3⟩ := components_both (a := C) (by rw [hlC]; exact hsC)
  rw [hlC] at k1 k2 k3
  refine ⟨rr, k3, ?_, ?_⟩
  · -- the program's road
    let p : List Int → Bool := fun x => (x.length == 1) && (entA C (x.headD 0).toNat (x.headD 0).toNat == -1000000000000000)
    have hd : ∀ x ∈ compsF rr a.length, ∃ v, v < a.length ∧ x.head? = some (v : Int) := fun x hx => by
      unfold compsF at hx
      obtain ⟨v, hv, rfl⟩ := List.mem_map.1 hx
      rw [List.mem_filter, List.mem_range] at hv
      exact ⟨v, hv.1, eq_of_beq hv.2⟩
    have hp : ∀ x ∈ compsF rr a.length, M.Conv (impl_criticalComponents_1 x C) (p x) := fun x hx => by
      obtain ⟨v, hv, e⟩ := hd x hx
      have e0 : x[0]? = some (v : Int) := by rw [← List.head?_eq_getElem?]; exact e
      have e1 : (x.headD 0).toNat = v := by rw [List.headD_eq_head?_getD, e]; rfl
      unfold impl_criticalComponents_1
      refine M.Conv_bind (M.Conv_idx (i := 0) e0) (M.Conv_bind (x := p x) (M.Conv_ite (fun t => M.Conv_bind (hC hv hv).1 (M.Conv_bind (hC hv hv).2 ((M.Conv_ret _).of ?_))) (fun t => (M.Conv_ret _).of ?_)) (M.Conv_ret _))
      · have t : x.length = 1 := by have := eq_of_beq t; omega
        simp only [p, e1, t]; simp
      · have t : x.length ≠ 1 := fun e => by rw [e] at t; simp at t
        simp only [p]
        rw [show (x.length == 1) = false by simpa using t]; rfl
    have hdel := del_ok (s := compsF rr a.length) (del := C) (p := p) (by have := compsF_len (r := rr) (n := a.length); omega) hp
    unfold impl_criticalComponents
    refine M.Conv_bind k2 (M.Conv_bind hdel ((M.Conv_ret _).of ?_))
    unfold compsF keepF
    rw [List.filter_map, List.filter_filter]
    congr 1
    refine List.filter_congr fun v hv => ?_
    have hv := List.mem_range.1 hv
    simp only [Function.comp]
    rw [Bool.and_comm]
    cases hh : (compF rr a.length v).head? == some (v : Int) with
    | false => rfl
    | true =>
      simp only [Bool.true_and]
      have e := eq_of_beq hh
      have e1 : ((compF rr a.length v).headD 0).toNat = v := by rw [List.headD_eq_head?_getD, e]; rfl
      have hk := hkeep k3 hv
      have ha := harcs hv hv
      unfold arcE at ha
      rw [Bool.eq_iff_iff]
      simp only [p, e1]
      rw [List.any_eq_true]
      simp only [List.mem_range]
      rw [hk]
      simp only [Bool.not_eq_true', Bool.and_eq_false_iff, beq_eq_false_iff_ne, ne_eq]
      rw [← Bool.not_eq_true (c v v), ← ha]
      by_cases q1 : (compF rr a.length v).length = 1 <;> by_cases q2 : entA C v v = -1000000000000000 <;> simp [q1, q2]
  · unfold spec_l06Components
    refine M.Conv_bind hmat (M.Conv_bind k1 (M.Conv_bind hnodes (M.Conv_bind (x := keepF rr c a.length) ?_ (M.Conv_ret _))))
    have hcl := compsF_len (r := rr) (n := a.length)
    have hkf : keepF rr c a.length = (compsF rr a.length).filter fun x => (toI (nodesC c a.length a.length)).any fun y => y == x.headD 0 := by
      unfold compsF keepF
      rw [List.filter_map, List.filter_filter]
      congr 1
      refine List.filter_congr fun v hv => ?_
      have hv := List.mem_range.1 hv
      simp only [Function.comp]
      rw [Bool.and_comm]
      cases hh : (compF rr a.length v).head? == some (v : Int) with
      | false => simp
      | true =>
        have e := eq_of_beq hh
        rw [Bool.and_true, Bool.and_true, List.headD_eq_head?_getD, e]
        rw [Bool.eq_iff_iff, List.any_eq_true (p := fun y => y == _)]
        simp only [Option.getD_some, beq_iff_eq]
        constructor
        · intro hany
          refine ⟨(v : Int), toI_mem.2 ?_, rfl⟩
          unfold nodesC
          rw [List.mem_filter, List.mem_range]
          exact ⟨hv, hany⟩
        · rintro ⟨y, hy, rfl⟩
          have := toI_mem.1 hy
          unfold nodesC at this
          rw [List.mem_filter] at this
          exact this.2
    rw [hkf]
    have hd : ∀ x ∈ compsF rr a.length, ∃ v : Int, x[0]? = some v ∧ x.headD 0 = v := fun x hx => by
      unfold compsF at hx
      obtain ⟨v, hv, rfl⟩ := List.mem_map.1 hx
      rw [List.mem_filter, List.mem_range] at hv
      have e := eq_of_beq hv.2
      exact ⟨v, by rw [← List.head?_eq_getElem?]; exact e, by rw [List.headD_eq_head?_getD, e]; rfl⟩
    generalize compsF rr a.length = s at *
    have hnl : (toI (nodesC c a.length a.length)).length ≤ 10 := by
      unfold nodesC
      rw [List.length_map]
      have := List.length_filter_le (fun j => (List.range a.length).any (c j)) (List.range a.length)
      rw [List.length_range] at this
      omega
    generalize toI (nodesC c a.length a.length) = N at *
    have e0 : s.filter (fun x => N.any fun y => y == x.headD 0) = (s.take s.length).filter (fun x => N.any fun y => y == x.headD 0) := by rw [List.take_length]
    rw [e0]
    refine Conv_forV (n := s.length) (fun k => (s.take k).filter fun x => N.any fun y => y == x.headD 0) (by omega) fun k hk => ?_
    have e : s.take (k + 1) = s.take k ++ [s[k]] := by rw [List.take_add_one]; simp [hk]
    have hx := List.getElem?_eq_getElem hk
    obtain ⟨v, hv, hv2⟩ := hd s[k] (List.getElem_mem hk)
    have hfl := List.length_filter_le (fun x => N.any fun y => y == x.headD 0) (s.take k)
    rw [List.length_take] at hfl
    generalize s[k] = x at *
    refine M.Conv_bind (M.Conv_idx hx) (M.Conv_bind (M.Conv_idx (i := 0) hv) (M.Conv_bind (l01Has_ok (l := N) v (by omega)) (M.Conv_bind (x := (s.take (k + 1)).filter fun x => N.any fun y => y == x.headD 0) (M.Conv_ite (fun t => ?_) (fun t => ?_)) (M.Conv_ret _))))
    · refine M.Conv_bind (M.Conv_idx hx) (M.Conv_bind ((M.Conv_app (by rw [List.length_cons, List.length_nil]; omega)).of ?_) (M.Conv_ret _))
      rw [e, List.filter_append, List.filter_cons, hv2, if_pos t]; rfl
    · refine (M.Conv_ret _).of ?_
      rw [e, List.filter_append, List.filter_cons, hv2, if_neg (by rw [t]; simp)]; simp

theorem critical_not {a : List (List Int)} (sa : smII a) (h : sqB a = false) : M.Conv (impl_criticalOf a) ([], 1) ∧ M.Conv (spec_l06Code a) 1 := by
  constructor
  · exact M.Conv_bind (impl_isSquare_ok sa) (M.Conv_ite (fun _ => M.Conv_ret _) (fun t => by rw [h] at t; cases t))
  · unfold spec_l06Code
    exact M.Conv_bind (spec_l02Square_ok sa) (M.Conv_ite (fun _ => M.Conv_ret _) (fun t => by rw [h] at t; cases t))
theorem keepF_mem {rr : Nat → Nat → Bool} {c : Nat → Nat → Bool} {n : Nat} {x : List Int} (h : x ∈ keepF rr c n) : ∃ v, v < n ∧ x = compF rr n v ∧ x.head? = some (v : Int) ∧ ∃ i, i < n ∧ c v i = true := by
  unfold keepF at h
  obtain ⟨v, hv, rfl⟩ := List.mem_map.1 h
  rw [List.mem_filter, List.mem_range, Bool.and_eq_true, List.any_eq_true] at hv
  obtain ⟨h1, h2, i, hi, hc⟩ := hv
  exact ⟨v, h1, rfl, eq_of_beq h2, i, List.mem_range.1 hi, hc⟩
theorem keepF_len {rr : Nat → Nat → Bool} {c : Nat → Nat → Bool} {n : Nat} : (keepF rr c n).length ≤ n := by
  unfold keepF
  rw [List.length_map]
  exact Nat.le_trans (List.length_filter_le _ _) (by simp)
theorem grow_nil_ok {n : Int} (h0 : 0 ≤ n) (h1 : n ≤ 1000000) : M.Conv (slices_Grow_int_nil n) [] := by
  unfold slices_Grow_int_nil
  have e0 : w64 (0 - 0) = 0 := by rw [w64_eq _ (by omega)]; rfl
  have e : w64 (n - w64 (0 - 0)) = n := by rw [e0, w64_eq _ (by omega)]; omega
  rw [e]
  refine M.Conv_bind (x := ()) (M.Conv_ite (fun t => by have := of_decide_eq_true t; omega) (fun _ => M.Conv_ret _)) (M.Conv_bind (x := []) (M.Conv_ite (fun t => ?_) (fun _ => M.Conv_ret _)) (M.Conv_ret _))
  exact M.Conv_bind (M.Conv_make h0 (by omega)) (M.Conv_bind ((M.Conv_sub (by omega) (by omega) (by omega)).of (by simp)) (M.Conv_ret _))
theorem concat_ok {L : List (List Int)} (h1 : L.length ≤ 100) (h2 : ∀ r ∈ L, r.length ≤ 100) : M.Conv (slices_Concat_int L) L.flatten := by
  have hlen : ∀ k, k ≤ L.length → (L.take k).flatten.length ≤ k * 100 := by
    intro k
    induction k with
    | zero => intro _; simp
    | succ k ih =>
      intro hk
      have e : L.take (k + 1) = L.take k ++ [L[k]] := by rw [List.take_add_one]; simp [show k < L.length by omega]
      have := h2 L[k] (List.getElem_mem (by omega))
      have := ih (by omega)
      rw [e, List.flatten_append, List.length_append]
      simp only [List.flatten_cons, List.flatten_nil, List.append_nil]
      omega
  have step : ∀ k (hk : k < L.length), (L.take (k + 1)).flatten = (L.take k).flatten ++ L[k] := fun k hk => by
    have e : L.take (k + 1) = L.take k ++ [L[k]] := by rw [List.take_add_one]; simp [hk]
    rw [e, List.flatten_append]; simp
  have hall := hlen L.length (Nat.le_refl _)
  rw [List.take_length] at hall
  unfold slices_Concat_int
  have s1 := Conv_forV (n := L.length) (f := fun i1 => (fun (s1 : Int) => M.bind (M.idx L i1) (fun x2 => M.bind (M.ite (decide ((w64 (s1 + (x2.length : Int))) < 0)) (M.fail) (M.ret ())) (fun (_ : Unit) => M.ret (.inl (w64 (s1 + (x2.length : Int)))))))) (fun k => ((L.take k).flatten.length : Int)) (by omega) fun k hk => ?_
  · refine M.Conv_bind s1 (M.Conv_bind (grow_nil_ok (by omega) (by rw [List.take_length]; omega)) (M.Conv_bind (x := L.flatten) ?_ (M.Conv_ret _)))
    have s2 := Conv_forV (n := L.length) (f := fun i2 => (fun (s3 : (List Int)) => M.bind (M.idx L i2) (fun x5 => M.bind (M.app s3 x5) (fun l1 => M.ret (.inl l1))))) (fun k => (L.take k).flatten) (by omega) fun k hk => ?_
    · rw [List.take_length] at s2; exact s2
    · have := hlen (k + 1) (by omega)
      have e := step k hk
      have hx := List.getElem?_eq_getElem hk
      rw [e, List.length_append] at this
      exact M.Conv_bind (M.Conv_idx hx) (M.Conv_bind ((M.Conv_app (by omega)).of e.symm) (M.Conv_ret _))
  · have := hlen (k + 1) (by omega)
    have e := step k hk
    have hx := List.getElem?_eq_getElem hk
    rw [e, List.length_append] at this
    have ew : w64 (((L.take k).flatten.length : Int) + (L[k].length : Int)) = ((L.take (k + 1)).flatten.length : Int) := by rw [w64_eq _ (by omega), e, List.length_append]; omega
    refine M.Conv_bind (M.Conv_idx hx) (M.Conv_bind (x := ()) (M.Conv_ite (fun t => by have := of_decide_eq_true t; rw [ew] at this; omega) (fun _ => M.Conv_ret _)) ((M.Conv_ret _).of (by rw [ew])))
theorem compF_eq {rr : Nat → Nat → Bool} {n : Nat} (H2 : ∀ u v w, u < n → v < n → w < n → rr u v = true → rr v w = true → rr u w = true) {v u : Nat} (hv : v < n) (hu : u < n) (h : rr v u = true) (h' : rr u v = true) : compF rr n v = compF rr n u := by
  unfold compF
  congr 1
  refine List.filter_congr fun w hw => ?_
  have hw := List.mem_range.1 hw
  rw [Bool.eq_iff_iff, Bool.and_eq_true, Bool.and_eq_true]
  exact ⟨fun ⟨a, b⟩ => ⟨H2 u v w hu hv hw h' a, H2 w v u hw hv hu b h⟩, fun ⟨a, b⟩ => ⟨H2 v u w hv hu hw h a, H2 w u v hw hu hv b h'⟩⟩
theorem keep_nodes {n : Nat} {rr c : Nat → Nat → Bool} (H1 : ∀ v, v < n → rr v v = true) (H2 : ∀ u v w, u < n → v < n → w < n → rr u v = true → rr v w = true → rr u w = true) (hk : ∀ v, v < n → ((∃ i, i < n ∧ c v i = true) ↔ ¬ ((compF rr n v).length = 1 ∧ c v v = false))) :
    ((keepF rr c n).flatten.mergeSort fun x y => decide (x ≤ y)) = toI (nodesC c n n) := by
  have arc : ∀ v u, v < n → u < n → rr v u = true → rr u v = true → (∃ i, i < n ∧ c v i = true) → ∃ i, i < n ∧ c u i = true := fun v u hv hu h h' ha => by
    rw [hk u hu]
    rintro ⟨h1, h2⟩
    have e := compF_eq H2 hv hu h h'
    have m1 : (v : Int) ∈ compF rr n u := compF_mem.2 ⟨v, rfl, hv, h', h⟩
    have m2 : (u : Int) ∈ compF rr n u := compF_mem.2 ⟨u, rfl, hu, H1 u hu, H1 u hu⟩
    obtain ⟨y, hy⟩ := List.length_eq_one_iff.1 h1
    rw [hy, List.mem_singleton] at m1 m2
    have : v = u := by omega
    subst this
    exact (hk v hv).1 ha ⟨h1, h2⟩
  have mem : ∀ x : Int, x ∈ (keepF rr c n).flatten ↔ x ∈ toI (nodesC c n n) := fun x => by
    rw [List.mem_flatten]
    unfold nodesC
    rw [List.mem_map]
    constructor
    · rintro ⟨l, hl, hx⟩
      obtain ⟨v, hv, rfl, _, ha⟩ := keepF_mem hl
      obtain ⟨w, rfl, hw, h1, h2⟩ := compF_mem.1 hx
      refine ⟨w, ?_, rfl⟩
      rw [List.mem_filter, List.mem_range, List.any_eq_true]
      obtain ⟨i, hi, hc⟩ := arc v w hv hw h1 h2 ha
      exact ⟨hw, i, List.mem_range.2 hi, hc⟩
    · rintro ⟨w, hw, rfl⟩
      rw [List.mem_filter, List.mem_range, List.any_eq_true] at hw
      obtain ⟨hw, i, hi, hc⟩ := hw
      have hi := List.mem_range.1 hi
      have hwm : (w : Int) ∈ compF rr n w := compF_mem.2 ⟨w, rfl, hw, H1 w hw, H1 w hw⟩
      -- the first node
      cases hh : (compF rr n w).head? with
      | none => rw [List.head?_eq_none_iff] at hh; rw [hh] at hwm; simp at hwm
      | some y =>
        obtain ⟨v, rfl, hv, h1, h2⟩ := compF_mem.1 (List.mem_of_mem_head? (by rw [hh]; rfl))
        have e := compF_eq H2 hw hv h1 h2
        refine ⟨compF rr n v, ?_, by rw [← e]; exact hwm⟩
        unfold keepF
        refine List.mem_map.2 ⟨v, ?_, rfl⟩
        rw [List.mem_filter, List.mem_range, Bool.and_eq_true, List.any_eq_true]
        obtain ⟨j, hj, hcj⟩ := arc w v hw hv h1 h2 ⟨i, hi, hc⟩
        exact ⟨hv, by rw [← e, hh]; simp, j, List.mem_range.2 hj, hcj⟩
  have nd1 : (keepF rr c n).flatten.Nodup := by
    unfold List.Nodup
    rw [List.pairwise_flatten]
    constructor
    · intro l hl
      obtain ⟨v, _, rfl, _⟩ := keepF_mem hl
      unfold compF
      rw [List.pairwise_map]
      exact (List.nodup_range.filter _).imp fun h e => h (by omega)
    · unfold keepF
      rw [List.pairwise_map, List.pairwise_filter]
      refine (List.pairwise_lt_range (n := n)).imp_of_mem fun {v u} hv hu hlt h1 h2 x hx y hy e => ?_
      subst e
      have hv := List.mem_range.1 hv
      have hu := List.mem_range.1 hu
      rw [Bool.and_eq_true] at h1 h2
      obtain ⟨w, rfl, hw, a1, a2⟩ := compF_mem.1 hx
      obtain ⟨w', e', hw', b1, b2⟩ := compF_mem.1 hy
      have : w = w' := by omega
      subst this
      have e := compF_eq H2 hv hu (H2 v w u hv hw hu a1 b2) (H2 u w v hu hw hv b1 a2)
      have q1 := eq_of_beq h1.1
      have q2 := eq_of_beq h2.1
      rw [e, q2] at q1
      simp at q1
      omega
  have sorted2 : List.Pairwise (fun x y : Int => x ≤ y) (toI (nodesC c n n)) := by
    unfold nodesC
    rw [List.pairwise_map]
    exact ((List.pairwise_lt_range (n := n)).filter _).imp fun h => by omega
  have nd2 : (toI (nodesC c n n)).Nodup := by
    unfold nodesC List.Nodup
    rw [List.pairwise_map]
    exact ((List.pairwise_lt_range (n := n)).filter _).imp fun h e => by omega
  have perm : ((keepF rr c n).flatten.mergeSort fun x y => decide (x ≤ y)).Perm (toI (nodesC c n n)) := (List.mergeSort_perm _ _).trans ((List.perm_ext_iff_of_nodup nd1 nd2).2 mem)
  have sorted1 := List.pairwise_mergeSort (le := fun x y : Int => decide (x ≤ y)) (fun a b c h1 h2 => by simp at *; omega) (fun a b => by simp; omega) (keepF rr c n).flatten
  refine List.Perm.eq_of_pairwise (le := fun x y : Int => x ≤ y) (fun a b _ _ h1 h2 => by omega) (sorted1.imp fun h => of_decide_eq_true h) sorted2 perm
theorem nodes_Two (a : List (List Int)) (sa : smII a) : Two (spec_CriticalNodes a) (impl_CriticalNodes a) (fun w => w.1.length ≤ 10 ∧ (w.2 = 0 → sqB a = true ∧ ∃ l W r S, CritP a l W r S ∧ w.1 = toI (nodesC (critB (matF a.length a.length (shF a r.Den r.Num)) S) a.length a.length))) := by
  unfold spec_CriticalNodes impl_CriticalNodes
  cases hq : sqB a with
  | false =>
    obtain ⟨k1, k2⟩ := critical_not sa hq
    exact ⟨([], 1), M.Conv_bind k2 (M.Conv_ite (fun _ => M.Conv_ret _) (fun t => by cases t)), M.Conv_bind k1 (M.Conv_ite (fun _ => M.Conv_ret _) (fun t => by cases t)), by simp⟩
  | true =>
    have hm := sq_mat hq
    have hrows := hm.rows
    obtain ⟨w, c1, h⟩ := critical_both sa hq
    rcases h with ⟨hw, _, c2⟩ | ⟨hw, c2, c3, l, W, r, S, hC, ew, c4⟩
    · exact ⟨([], 4), M.Conv_bind c2 (M.Conv_ite (fun _ => M.Conv_ret _) (fun t => by cases t)), M.Conv_bind c1 (M.Conv_ite (fun _ => (M.Conv_ret _).of (by rw [hw])) (fun t => by rw [hw] at t; cases t)), by simp⟩
    · have hnodes := nodes_conv (by omega) c4
      rw [ew] at c3
      obtain ⟨rr, k1, k2, k3⟩ := lcomps_both hm hC c3 c4
      have hkeep := fun v hv => hC.keep hm k1 (v := v) hv
      have H1 : ∀ v, v < a.length → rr v v = true := fun v hv => (k1 v v hv hv).2 (.refl _ _ _)
      have H2 : ∀ u v w, u < a.length → v < a.length → w < a.length → rr u v = true → rr v w = true → rr u w = true := fun u v w hu hv hw h1 h2 => (k1 u w hu hw).2 (((k1 u v hu hv).1 h1).trans ((k1 v w hv hw).1 h2))
      have hkn := keep_nodes H1 H2 hkeep
      have hkl := keepF_len (rr := rr) (c := critB (matF a.length a.length (shF a r.Den r.Num)) S) (n := a.length)
      have hrl : ∀ x ∈ keepF rr (critB (matF a.length a.length (shF a r.Den r.Num)) S) a.length, x.length ≤ 100 := fun x hx => by
        obtain ⟨v, _, rfl, _⟩ := keepF_mem hx
        have := compF_len (r := rr) (n := a.length) (v := v)
        omega
      have hcc := concat_ok (by omega) hrl
      have hnl : (toI (nodesC (critB (matF a.length a.length (shF a r.Den r.Num)) S) a.length a.length)).length ≤ 10 := by
        unfold nodesC
        rw [List.length_map]
        have := List.length_filter_le (fun j => (List.range a.length).any (critB (matF a.length a.length (shF a r.Den r.Num)) S j)) (List.range a.length)
        rw [List.length_range] at this
        omega
      have hsort : M.Conv (slices_Sort_int (keepF rr (critB (matF a.length a.length (shF a r.Den r.Num)) S) a.length).flatten) (toI (nodesC (critB (matF a.length a.length (shF a r.Den r.Num)) S) a.length a.length)) := by
        unfold slices_Sort_int
        have hl : (keepF rr (critB (matF a.length a.length (shF a r.Den r.Num)) S) a.length).flatten.length ≤ 10 := by
          rw [← hkn, List.length_mergeSort] at hnl; exact hnl
        rw [hkn]
        exact M.Conv_bind (M.Conv_guard (decide_eq_true (by omega))) (M.Conv_ret _)
      refine ⟨(toI (nodesC (critB (matF a.length a.length (shF a r.Den r.Num)) S) a.length a.length), 0), M.Conv_bind c2 (M.Conv_ite (fun t => by cases t) (fun _ => M.Conv_bind hnodes (M.Conv_ret _))), M.Conv_bind c1 (M.Conv_ite (fun t => by rw [hw] at t; cases t) (fun _ => M.Conv_bind (by rw [ew]; exact k2) (M.Conv_bind hcc (M.Conv_bind hsort (M.Conv_ret _))))), hnl, fun _ => ⟨rfl, l, W, r, S, hC, rfl⟩⟩
theorem same_CriticalNodes (a : List (List Int)) (_ : fitL (fitL inI64) a) (sa : smII a) : Two (spec_CriticalNodes a) (impl_CriticalNodes a) (fun w => smI w.1) := (nodes_Two a sa).mono fun _ p => by have := p.1; unfold smI; omega
theorem FnExactCriticalNodes_ok (aA : List (List Int)) (gaA : fitL (fitL inI64) aA) : M.Conv (laws_FnExactCriticalNodes aA) true := by
  unfold laws_FnExactCriticalNodes
  obtain ⟨zaA, hzaA, ssaA⟩ := szII_ok gaA
  refine M.Conv_bind hzaA ?_
  refine M.Conv_ite (fun _ => M.Conv_ret _) (fun qaA => ?_)
  have saA := ssaA qaA
  have nzaA := of_decide_eq_false qaA
  refine M.Conv_bind (toII_ok saA) ?_
  obtain ⟨w, hS, hI, hw⟩ := same_CriticalNodes aA gaA saA
  refine M.Conv_bind hS ?_
  refine M.Conv_bind (toII_ok saA) ?_
  refine M.Conv_bind hI ?_
  refine M.Conv_bind (eqI_refl hw) ?_
  refine M.Conv_ite (fun q => ?_) (fun _ => ?_)
  · exfalso; revert q; simp
  refine M.Conv_bind (toII_ok saA) ?_
  refine M.Conv_bind (eqII_refl saA) ?_
  refine M.Conv_ite (fun q => ?_) (fun _ => ?_)
  · exfalso; revert q; simp
  obtain ⟨k1, mk1, hmk1, lek1, gek1, _, hek1⟩ := markII_ok saA _ (show (0 : Int) ≤ 1 by omega) (by omega)
  refine M.Conv_bind hmk1 ?_
  refine M.Conv_bind (x := false) (M.Conv_ite (fun q => ?_) (fun _ => M.Conv_bind (eqI_refl hw) (M.Conv_ret _))) ?_
  · exfalso; revert q; simp; omega
  refine M.Conv_ite (fun q => ?_) (fun _ => ?_)
  · exfalso; revert q; simp
  obtain ⟨k2, mk2, hmk2, lek2, gek2, _, hek2⟩ := markI_ok hw _ (show (0 : Int) ≤ 1 by omega) (by omega)
  refine M.Conv_bind hmk2 ?_
  refine M.Conv_bind hek2 ?_
  refine M.Conv_ite (fun q => ?_) (fun _ => ?_)
  · exfalso; revert q; simp; try omega
  refine M.Conv_ite (fun q => ?_) (fun _ => ?_)
  · exfalso; revert q; simp; try omega
  refine M.Conv_bind (toII_ok saA) ?_
  refine M.Conv_bind hI ?_
  refine M.Conv_bind (eqI_refl hw) ?_
  refine M.Conv_ite (fun q => ?_) (fun _ => ?_)
  · exfalso; revert q; simp; try omega
  refine M.Conv_bind hek2 ?_
  refine M.Conv_ite (fun q => ?_) (fun _ => ?_)
  · exfalso; revert q; simp; try omega
  refine M.Conv_ite (fun q => ?_) (fun _ => ?_)
  · exfalso; revert q; simp; try omega
  exact M.Conv_ret _

end Go.Proofs.YtelopfgolahlpaaGreat
