/-
  Plain proofs: the plain program of the law ends with true.
  Conditions: None beyond the given statement.
-/
import Derived.Test.YtelopfgolahlpaaB
namespace Go.Proofs.Ytelopfgolahlpaa
open Go
theorem reaching_ok {a : List (List Int)} (hs : Shp a a.length) : M.Conv (impl_reaching a) (bmF a.length (warN a a.length)) := by
  have hn := hs.rows
  have rdA : ∀ i j : Nat, i < a.length → j < a.length → M.Conv (M.idx a (i : Int)) (rowN a i) ∧ M.Conv (M.idx (rowN a i) (j : Int)) (entA a i j) := fun i j hi hj => by
    have hrl := hs.row _ (List.mem_of_getElem? (rowN_get (a := a) (i := i) hi))
    have g2 := nd_read (l := rowN a i) (i := j) (by omega)
    rw [nd_row hi] at g2
    exact ⟨get_row (rowN_get hi), g2⟩
  unfold impl_reaching
  refine M.Conv_bind ((M.Conv_make (by omega) (by omega)).of (r' := tab a.length fun p => bif decide (p < 0) then tab a.length (arcB a p) else []) (by rw [Int.toNat_natCast, tab_rep]; exact tab_congr fun i _ => by simp)) ?_
  rw [tab_len]
  refine M.Conv_bind (x := bmF a.length (arcB a)) ((Conv_forV (fun i => tab a.length fun p => bif decide (p < i) then tab a.length (arcB a p) else []) (by omega) fun i hi => ?_).of (tab_congr fun p hp => by rw [decide_eq_true hp]; rfl)) ?_
  · refine M.Conv_bind ((M.Conv_make (by omega) (by omega)).of (r' := tab a.length fun _ => false) (by rw [Int.toNat_natCast, tab_rep])) ?_
    let st : Nat → List (List Bool) := fun j => tab a.length fun p => if p = i then tab a.length (fun q => bif decide (q < j) then arcB a i q else false) else (bif decide (p < i) then tab a.length (arcB a p) else [])
    refine M.Conv_bind (idx_tab hi) (M.Conv_bind (x := st 0) ((M.Conv_upd (by rw [tab_len]; exact hi)).of (tab_set (by rw [if_pos rfl]; exact tab_congr fun q _ => by simp) fun p _ hp => by rw [if_neg hp])) (M.Conv_bind (x := st a.length) (Conv_forV st (by omega) fun j hj => ?_) ((M.Conv_ret _).of (congrArg Sum.inl (tab_congr fun p hp => ?_)))))
    · have hrow : M.Conv (M.idx (st j) (i : Int)) (tab a.length fun q => bif decide (q < j) then arcB a i q else false) := (idx_tab hi).of (if_pos rfl)
      have hset : ∀ v, v = arcB a i j → (st j).set i ((tab a.length fun q => bif decide (q < j) then arcB a i q else false).set j v) = st (j + 1) := fun v hv => by
        refine tab_set ?_ fun p _ hp => by simp only [if_neg hp]
        rw [if_pos rfl]
        refine tab_set (by simp [hv]) fun q _ hq => ?_
        congr 1
        rw [Bool.eq_iff_iff]; simp; omega
      refine M.Conv_bind (x := st (j + 1)) (M.Conv_bind hrow (M.Conv_ite (fun t => ?_) (fun t => ?_))) (M.Conv_ret _)
      · have e : i = j := by have := eq_of_beq t; omega
        exact M.Conv_bind (idx_tab hj) (M.Conv_bind (M.Conv_upd (by rw [tab_len]; exact hj)) ((M.Conv_ret _).of (hset _ (by simp [arcB, e]))))
      · have e : i ≠ j := fun e => by rw [e] at t; simp at t
        exact M.Conv_bind (rdA j i hj hi).1 (M.Conv_bind (rdA j i hj hi).2 (M.Conv_bind (idx_tab hj) (M.Conv_bind (M.Conv_upd (by rw [tab_len]; exact hj)) ((M.Conv_ret _).of (hset _ (by simp [arcB, e]))))))
    · by_cases e : p = i
      · rw [if_pos e, e, show decide (i < i + 1) = true by simp]
        exact tab_congr fun q hq => by rw [decide_eq_true hq]; rfl
      · rw [if_neg e]
        congr 1
        rw [Bool.eq_iff_iff]; simp; omega
  · refine M.Conv_bind (x := bmF a.length (warN a a.length)) (Conv_forV (fun k => bmF a.length (warN a k)) (by omega) fun k hk => ?_) (M.Conv_ret _)
    have e0 : bmF a.length (warN a k) = bmF a.length (mixB (warN a k) (warN a (k + 1)) 0 0) := mix_zero.symm
    rw [e0]
    refine M.Conv_bind ((Conv_forV (fun i => bmF a.length (mixB (warN a k) (warN a (k + 1)) i 0)) (by omega) fun i hi => ?_).of mix_all) (M.Conv_ret _)
    refine M.Conv_bind (Conv_forV (fun j => bmF a.length (mixB (warN a k) (warN a (k + 1)) i j)) (by omega) fun j hj => ?_) ((M.Conv_ret _).of (congrArg Sum.inl mix_row))
    have k1 : mixB (warN a k) (warN a (k + 1)) i j i j = warN a k i j := mix_ne (by omega)
    have k2 : mixB (warN a k) (warN a (k + 1)) i j i k = warN a k i k := war_keep hk (.inr rfl)
    have k3 : mixB (warN a k) (warN a (k + 1)) i j k j = warN a k k j := war_keep hk (.inl rfl)
    have upd : ∀ v, v = warN a (k + 1) i j → M.Conv (M.upd (tab a.length (mixB (warN a k) (warN a (k + 1)) i j i)) (j : Int) v) ((tab a.length (mixB (warN a k) (warN a (k + 1)) i j i)).set j v) ∧ (bmF a.length (mixB (warN a k) (warN a (k + 1)) i j)).set ((i : Int)).toNat ((tab a.length (mixB (warN a k) (warN a (k + 1)) i j i)).set j v) = bmF a.length (mixB (warN a k) (warN a (k + 1)) i (j + 1)) := fun v hv => ⟨M.Conv_upd (by rw [tab_len]; exact hj), by rw [Int.toNat_natCast]; exact mix_step hv⟩
    refine M.Conv_bind (x := bmF a.length (mixB (warN a k) (warN a (k + 1)) i (j + 1))) (M.Conv_bind (idx_tab hk) (M.Conv_bind (idx_tab hi) (M.Conv_bind (idx_tab hi) (M.Conv_bind ((idx_tab hj).of k1) (M.Conv_ite (fun t => ?_) (fun t => M.Conv_bind ((idx_tab hk).of k2) (M.Conv_ite (fun t2 => ?_) (fun t2 => ?_)))))))) (M.Conv_ret _)
    · obtain ⟨u1, u2⟩ := upd true (by simp [warN, warB, t])
      exact M.Conv_bind (idx_tab hj) (M.Conv_bind u1 ((M.Conv_ret _).of u2))
    · obtain ⟨u1, u2⟩ := upd (warN a k k j) (by simp [warN, warB, t, t2])
      exact M.Conv_bind ((idx_tab hj).of k3) (M.Conv_bind (idx_tab hj) (M.Conv_bind u1 ((M.Conv_ret _).of u2)))
    · obtain ⟨u1, u2⟩ := upd false (by simp [warN, warB, t, t2])
      exact M.Conv_bind (idx_tab hj) (M.Conv_bind u1 ((M.Conv_ret _).of u2))
theorem compsF_congr {n : Nat} {r r' : Nat → Nat → Bool} (h : ∀ v i, v < n → i < n → r v i = r' v i) : compsF r n = compsF r' n := by
  have hc : ∀ v, v < n → compF r n v = compF r' n v := fun v hv => by
    unfold compF
    congr 1
    refine List.filter_congr fun w hw => ?_
    have hw := List.mem_range.1 hw
    rw [h v w hv hw, h w v hw hv]
  unfold compsF
  rw [List.filter_congr (q := fun (v : Nat) => (compF r' n v).head? == some (v : Int)) fun v hv => by rw [hc v (List.mem_range.1 hv)]]
  exact List.map_congr_left fun v hv => hc v (List.mem_range.1 (List.mem_filter.1 hv).1)
/-- the components by both roads -/
theorem components_both {a : List (List Int)} (hs : Shp a a.length) : ∃ r : Nat → Nat → Bool, M.Conv (spec_l05Components a) (compsF r a.length) ∧ M.Conv (impl_componentsOf a) (compsF r a.length) ∧ ∀ v i, v < a.length → i < a.length → (r v i = true ↔ Rch (arcE a) a.length v i) := by
  obtain ⟨r, h1, h2⟩ := spec_l05Components_ok hs
  have hn := hs.rows
  refine ⟨r, h1, ?_, h2⟩
  rw [compsF_congr (r' := warN a a.length) fun v i hv hi => by rw [Bool.eq_iff_iff, h2 v i hv hi, war_reach hv hi]]
  unfold impl_componentsOf
  exact M.Conv_bind (reaching_ok hs) (comps_ok (by omega) fun v hv => (war_reach hv hv).2 (Rch.refl _ _ _))

theorem CritP.arc {a : List (List Int)} (hm : Mat a a.length) {l : List Nat} {W : Int} {r : TRatio} {S : List (List Int)} (h : CritP a l W r S) {i k : Nat} (hi : i < a.length) (hk : k < a.length) : arcE (matF a.length a.length (critF (matF a.length a.length (shF a r.Den r.Num)) S a)) k i ↔ critB (matF a.length a.length (shF a r.Den r.Num)) S k i = true := by
  unfold arcE
  rw [entA_matF hi hk]
  unfold critF
  obtain ⟨e1, e2⟩ := h.ent hm hi hk
  have hci := critB_iff e1 e2
  cases c : critB (matF a.length a.length (shF a r.Den r.Num)) S k i with
  | false => simp
  | true =>
    obtain ⟨q1, _, _⟩ := hci.1 c
    simp only [cond_true, iff_true]
    rcases h.sh.val hi hk with e | e
    · exact absurd e.2 q1
    · exact e.1
theorem CritP.on {a : List (List Int)} (hm : Mat a a.length) {l : List Nat} {W : Int} {r : TRatio} {S : List (List Int)} (h : CritP a l W r S) {i j : Nat} (hi : i < a.length) (hj : j < a.length) {b0 : Int} (hb : entA (matF a.length a.length (shF a r.Den r.Num)) i j = b0) (hne : b0 ≠ -1000000000000000) :
    ∀ {m x : Nat} {w1 : Int}, Wlk (matF a.length a.length (shF a r.Den r.Num)) a.length i m x w1 → ∀ {m2 : Nat} {w2 : Int}, Wlk (matF a.length a.length (shF a r.Den r.Num)) a.length x m2 j w2 → w1 + w2 + b0 = 0 → Rch (arcE (matF a.length a.length (critF (matF a.length a.length (shF a r.Den r.Num)) S a))) a.length i x := by
  intro m x w1 h1
  induction h1 with
  | nil _ => intro m2 w2 _ _; exact .refl _ _ _
  | step m y x w0 hw hx ha ih =>
    intro m2 w2 h2 hsum
    have hy := hw.lt.2
    -- from y on: the arc, then the rest
    have hrest : Wlk (matF a.length a.length (shF a r.Den r.Num)) a.length y (1 + m2) j (entA (matF a.length a.length (shF a r.Den r.Num)) x y + w2) := by
      have := Wlk.step 0 y x 0 (.nil hy) hx ha
      rw [Int.zero_add] at this
      exact Wlk.trans (k := 1) this h2
    have hr := ih hrest (by omega)
    refine hr.step hy hx ((h.arc hm hx hy).2 ?_)
    obtain ⟨e1, e2⟩ := h.ent hm hx hy
    -- back from x to y
    have hback : Wlk (matF a.length a.length (shF a r.Den r.Num)) a.length x (m2 + 1 + m) y (w2 + b0 + w0) := by
      have := Wlk.step m2 j i w2 h2 hi (by rw [hb]; exact hne)
      rw [hb] at this
      exact this.trans hw
    obtain ⟨c1, c2⟩ := h.st.cpl y x _ _ hback
    obtain ⟨k, hk⟩ := (h.st.snd y x hy hx).resolve_left c1
    have hcl := h.np.closed (Wlk.step k y x _ hk hx ha)
    exact (critB_iff e1 e2).2 ⟨ha, c1, by omega⟩
theorem CritP.back {a : List (List Int)} (hm : Mat a a.length) {l : List Nat} {W : Int} {r : TRatio} {S : List (List Int)} (h : CritP a l W r S) {i j : Nat} (hi : i < a.length) (hj : j < a.length) (hc : critB (matF a.length a.length (shF a r.Den r.Num)) S j i = true) : Rch (arcE (matF a.length a.length (critF (matF a.length a.length (shF a r.Den r.Num)) S a))) a.length i j := by
  obtain ⟨e1, e2⟩ := h.ent hm hi hj
  obtain ⟨q1, q2, q3⟩ := (critB_iff e1 e2).1 hc
  obtain ⟨k, hk⟩ := (h.st.snd j i hj hi).resolve_left q2
  exact h.on hm hi hj rfl q1 hk (.nil hj) (by omega)
/-- a component keeps its first node's arcs -/
theorem CritP.keep {a : List (List Int)} (hm : Mat a a.length) {l : List Nat} {W : Int} {r : TRatio} {S : List (List Int)} (h : CritP a l W r S) {rr : Nat → Nat → Bool} (hr : ∀ v i, v < a.length → i < a.length → (rr v i = true ↔ Rch (arcE (matF a.length a.length (critF (matF a.length a.length (shF a r.Den r.Num)) S a))) a.length v i)) {v : Nat} (hv : v < a.length) :
    (∃ i, i < a.length ∧ critB (matF a.length a.length (shF a r.Den r.Num)) S v i = true) ↔ ¬ ((compF rr a.length v).length = 1 ∧ critB (matF a.length a.length (shF a r.Den r.Num)) S v v = false) := by
  have hvv : (v : Int) ∈ compF rr a.length v := compF_mem.2 ⟨v, rfl, hv, (hr v v hv hv).2 (.refl _ _ _), (hr v v hv hv).2 (.refl _ _ _)⟩
  constructor
  · rintro ⟨i, hi, hc⟩ ⟨h1, h2⟩
    have a1 : rr v i = true := (hr v i hv hi).2 ((Rch.refl _ _ _).step hv hi ((h.arc hm hi hv).2 hc))
    have a2 : rr i v = true := (hr i v hi hv).2 (h.back hm hi hv hc)
    have him : (i : Int) ∈ compF rr a.length v := compF_mem.2 ⟨i, rfl, hi, a1, a2⟩
    obtain ⟨x, hx⟩ := List.length_eq_one_iff.1 h1
    rw [hx, List.mem_singleton] at hvv him
    have : i = v := by omega
    rw [this] at hc
    rw [hc] at h2; cases h2
  · intro hno
    by_cases hself : critB (matF a.length a.length (shF a r.Den r.Num)) S v v = true
    · exact ⟨v, hv, hself⟩
    · have hlen : (compF rr a.length v).length ≠ 1 := fun e => hno ⟨e, by simpa using hself⟩
      -- another node of the component
      have : ∃ u, u < a.length ∧ u ≠ v ∧ rr v u = true := by
        apply Classical.byContradiction
        intro hnone
        refine hlen ?_
        have e : compF rr a.length v = [(v : Int)] := by
          unfold compF
          have : ((List.range a.length).filter fun w => rr v w && rr w v) = [v] := by
            have hvm : v ∈ (List.range a.length).filter fun w => rr v w && rr w v := by
              rw [List.mem_filter]
              exact ⟨List.mem_range.2 hv, by rw [(hr v v hv hv).2 (.refl _ _ _)]; rfl⟩
            have hall : ∀ w ∈ (List.range a.length).filter fun w => rr v w && rr w v, w = v := fun w hw => by
              rw [List.mem_filter, List.mem_range, Bool.and_eq_true] at hw
              exact Classical.byContradiction fun hne => hnone ⟨w, hw.1, hne, hw.2.1⟩
            have hnd : ((List.range a.length).filter fun w => rr v w && rr w v).Nodup := List.nodup_range.filter _
            revert hvm hall hnd
            generalize (List.range a.length).filter (fun w => rr v w && rr w v) = L
            intro hvm hall hnd
            cases L with
            | nil => simp at hvm
            | cons x L =>
              have hx := hall x List.mem_cons_self
              cases L with
              | nil => rw [hx]
              | cons y L =>
                have hy := hall y (by simp)
                rw [hx, hy] at hnd
                simp at hnd
          rw [this]; rfl
        rw [e]; rfl
      obtain ⟨u, hu, hne, hru⟩ := this
      obtain ⟨k, hk⟩ := (hr v u hv hu).1 hru
      -- the first arc of the way from v
      have first : ∀ {k u : Nat}, RK (arcE (matF a.length a.length (critF (matF a.length a.length (shF a r.Den r.Num)) S a))) a.length v k u → u ≠ v → ∃ i, i < a.length ∧ critB (matF a.length a.length (shF a r.Den r.Num)) S v i = true := by
        intro k u hk
        induction hk with
        | nil k => intro hne; exact absurd rfl hne
        | step k j i _ hj hi he ih =>
          intro _
          by_cases e : j = v
          · subst e
            exact ⟨i, hi, (h.arc hm hi hj).1 he⟩
          · exact ih e
      exact first hk hne

def firsts (L : List (Nat × Nat)) (o : List Nat) : List Nat := L.foldl (fun o p => if p.1 ∈ o then o else o ++ [p.1]) o
theorem firsts_snoc (L : List (Nat × Nat)) (p : Nat × Nat) (o : List Nat) : firsts (L ++ [p]) o = if p.1 ∈ firsts L o then firsts L o else firsts L o ++ [p.1] := by
  unfold firsts; rw [List.foldl_append]; rfl
theorem firsts_app (L M : List (Nat × Nat)) (o : List Nat) : firsts (L ++ M) o = firsts M (firsts L o) := by
  unfold firsts; rw [List.foldl_append]
theorem firsts_len : ∀ (L : List (Nat × Nat)) (o : List Nat), (firsts L o).length ≤ o.length + L.length
  | [], o => by simp [firsts]
  | p :: L, o => by
    show (firsts L (if p.1 ∈ o then o else o ++ [p.1])).length ≤ _
    by_cases e : p.1 ∈ o
    · rw [if_pos e]
      have := firsts_len L o
      simp only [List.length_cons]; omega
    · rw [if_neg e]
      have := firsts_len L (o ++ [p.1])
      simp only [List.length_cons, List.length_append, List.length_nil] at this ⊢; omega
theorem firsts_in {j : Nat} : ∀ (L : List (Nat × Nat)) (o : List Nat), (∀ p ∈ L, p.1 = j) → j ∈ o → firsts L o = o
  | [], o, _, _ => rfl
  | p :: L, o, h, hj => by
    show firsts L (if p.1 ∈ o then o else o ++ [p.1]) = o
    rw [if_pos (by rw [h p List.mem_cons_self]; exact hj)]
    exact firsts_in L o (fun q hq => h q (List.mem_cons_of_mem _ hq)) hj
def nodesC (c : Nat → Nat → Bool) (n m : Nat) : List Nat := (List.range m).filter fun j => (List.range n).any (c j)
theorem firsts_arcs (c : Nat → Nat → Bool) (n : Nat) : ∀ m, firsts (arcsV c n m) [] = nodesC c n m
  | 0 => rfl
  | m + 1 => by
    rw [arcsV, firsts_app, firsts_arcs c n m]
    have hout : m ∉ nodesC c n m := fun h => by
      unfold nodesC at h
      rw [List.mem_filter, List.mem_range] at h
      omega
    have hall : ∀ p ∈ arcsR c m n, p.1 = m := fun p hp => by
      unfold arcsR at hp
      obtain ⟨i, _, rfl⟩ := List.mem_map.1 hp
      rfl
    have hmem : ∀ i, (m, i) ∈ arcsR c m n ↔ i < n ∧ c m i = true := fun i => by
      unfold arcsR
      simp only [List.mem_map, List.mem_filter, List.mem_range]
      constructor
      · rintro ⟨q, hq, e⟩
        have : q = i := by simpa using congrArg Prod.snd e
        rw [← this]; exact hq
      · exact fun h => ⟨i, h, rfl⟩
    unfold nodesC at hout ⊢
    rw [List.range_succ, List.filter_append]
    cases hany : (List.range n).any (c m) with
    | true =>
      have e2 : [m].filter (fun j => (List.range n).any (c j)) = [m] := by simp only [List.filter_cons, hany, if_true, List.filter_nil]
      rw [e2]
      rw [List.any_eq_true] at hany
      obtain ⟨i, hi, hc⟩ := hany
      have h1 := (hmem i).2 ⟨List.mem_range.1 hi, hc⟩
      cases hL : arcsR c m n with
      | nil => rw [hL] at h1; simp at h1
      | cons p L =>
        have hp := hall p (by rw [hL]; exact List.mem_cons_self)
        show firsts L (if p.1 ∈ _ then _ else _) = _
        rw [hp, if_neg hout]
        exact firsts_in L _ (fun q hq => hall q (by rw [hL]; exact List.mem_cons_of_mem _ hq)) (by simp)
    | false =>
      have e2 : [m].filter (fun j => (List.range n).any (c j)) = [] := by simp only [List.filter_cons, hany, Bool.false_eq_true, if_false, List.filter_nil]
      rw [e2, List.append_nil]
      have : arcsR c m n = [] := by
        unfold arcsR
        rw [List.map_eq_nil_iff, List.filter_eq_nil_iff]
        intro i hi hc
        rw [← Bool.not_eq_true, List.any_eq_true] at hany
        exact hany ⟨i, hi, hc⟩
      rw [this]; rfl
theorem nodes_conv {a : List (List Int)} {c : Nat → Nat → Bool} {n : Nat} (hn : n ≤ 10) (h : M.Conv (spec_l06Arcs a) ((arcsV c n n).map encA)) : M.Conv (spec_l06Nodes a) (toI (nodesC c n n)) := by
  have hlen := arcsV_len c n n
  have hnn : n * n ≤ 100 := Nat.mul_le_mul hn hn
  rw [← firsts_arcs c n n]
  generalize arcsV c n n = L at h hlen
  unfold spec_l06Nodes
  refine M.Conv_bind h (M.Conv_bind (x := toI (firsts L [])) ?_ (M.Conv_ret _))
  have e : toI (firsts L []) = toI (firsts (L.take L.length) []) := by rw [List.take_length]
  rw [e, List.length_map]
  refine Conv_forV (fun k => toI (firsts (L.take k) [])) (by omega) fun k hk => ?_
  have ht : L.take (k + 1) = L.take k ++ [L[k]] := by rw [List.take_add_one]; simp [hk]
  have hp : M.Conv (M.idx (L.map encA) (k : Int)) (encA L[k]) := M.Conv_idx (by simp [hk])
  have hfl := firsts_len (L.take k) []
  rw [List.length_take, List.length_nil] at hfl
  simp only [ht, firsts_snoc]
  generalize L[k] = p at *
  have hx : M.Conv (M.idx (encA p) 0) (p.1 : Int) := M.Conv_idx (i := 0) rfl
  have hhas := l01Has_ok (l := toI (firsts (L.take k) [])) (p.1 : Int) (by rw [List.length_map]; omega)
  have hb : ((toI (firsts (L.take k) [])).any fun y => y == (p.1 : Int)) = decide (p.1 ∈ firsts (L.take k) []) := by
    rw [Bool.eq_iff_iff, List.any_eq_true, decide_eq_true_eq]
    constructor
    · rintro ⟨y, hy, e⟩
      rw [eq_of_beq e] at hy
      exact toI_mem.1 hy
    · exact fun hm => ⟨_, toI_mem.2 hm, by simp⟩
  rw [hb] at hhas
  refine M.Conv_bind hp (M.Conv_bind hx (M.Conv_bind hhas (M.Conv_bind (x := toI (if p.1 ∈ firsts (L.take k) [] then firsts (L.take k) [] else firsts (L.take k) [] ++ [p.1])) (M.Conv_ite (fun t => ?_) (fun t => ?_)) (M.Conv_ret _))))
  · have t : p.1 ∉ firsts (L.take k) [] := by simpa using t
    rw [if_neg t]
    exact M.Conv_bind hp (M.Conv_bind hx (M.Conv_bind ((M.Conv_app (by simp; omega)).of (by simp)) (M.Conv_ret _)))
  · have t : p.1 ∈ firsts (L.take k) [] := by simpa using t
    rw [if_pos t]
    exact M.Conv_ret _

theorem find_row {s : List (List Int)} {del : List (List Int)} {p : List Int → Bool} (hs : s.length ≤ 1099511627776) (hp : ∀ x ∈ s, M.Conv (impl_criticalComponents_1 x del) (p x)) :
    M.TC (slices_IndexFunc_row_F_impl_criticalComponents_1 s del) (fun q => (q = -1 ∧ ∀ x ∈ s, p x = false) ∨ ∃ (i : Nat) (x : List Int), q = i ∧ s[i]? = some x ∧ p x = true ∧ ∀ y ∈ s.take i, p y = false) := by
  unfold slices_IndexFunc_row_F_impl_criticalComponents_1
  refine M.TC_bind (M.TC_forE (fun k (_ : Unit) => ∀ y ∈ s.take k, p y = false) (fun q => ∃ (i : Nat) (x : List Int), q = (i : Int) ∧ s[i]? = some x ∧ p x = true ∧ ∀ y ∈ s.take i, p y = false) (by omega) (by simp) (fun i u hi hI => ?_)) fun y hy => ?_
  · have hx := List.getElem?_eq_getElem hi
    have c := hp s[i] (List.getElem_mem hi)
    have e : s.take (i + 1) = s.take i ++ [s[i]] := by rw [List.take_add_one]; simp [hi]
    generalize s[i] = x at hx c e
    refine M.TC_bindC (M.Conv_idx hx) (M.TC_bindC c (M.TC_ite (fun t => M.TC_ret (.inr ⟨_, rfl, i, x, rfl, hx, t, hI⟩)) (fun t => M.TC_ret (.inl ⟨_, rfl, fun y hy => ?_⟩))))
    rw [e, List.mem_append, List.mem_singleton] at hy
    rcases hy with hy | rfl
    · exact hI y hy
    · exact t
  · rcases hy with ⟨u, rfl, h⟩ | ⟨r, rfl, h⟩
    · exact M.TC_ret (.inl ⟨rfl, fun x hx => h x (by rw [List.take_of_length_le (Nat.le_refl _)]; exact hx)⟩)
    · exact M.TC_ret (.inr h)
theorem del_ok {s : List (List Int)} {del : List (List Int)} {p : List Int → Bool} (hs : s.length ≤ 1099511627776) (hp : ∀ x ∈ s, M.Conv (impl_criticalComponents_1 x del) (p x)) :
    M.Conv (slices_DeleteFunc_row_F_impl_criticalComponents_1 s del) (s.filter fun x => !p x) := by
  apply M.TC.conv
  unfold slices_DeleteFunc_row_F_impl_criticalComponents_1
  refine M.TC_bind (find_row hs hp) fun q hq => ?_
  rcases hq with ⟨rfl, h⟩ | ⟨i, x, rfl, hx, hpx, h⟩
  · exact M.TC_ite (fun _ => M.TC_ret (List.filter_eq_self.2 fun y hy => by rw [h y hy]; rfl).symm) (fun t => by simp at t)
  · have hi := (List.getElem?_eq_some_iff.1 hx).1
    refine M.TC_ite (fun t => by have := eq_of_beq t; omega) (fun _ => ?_)
    rw [w64_eq _ (by omega)]
    refine M.TC_bind (M.TC_for (Post := fun (y : List (List Int) × Int) => ∃ k : Nat, y.2 = k ∧ k ≤ s.length ∧ y.1.length = s.length ∧ y.1.take k = s.filter fun x => !p x) (fun j (y : List (List Int) × Int) => ∃ k m : Nat, y.2 = k ∧ j = m ∧ k ≤ m ∧ m ≤ s.length ∧ y.1.length = s.length ∧ y.1.take k = ((s.take m).filter fun x => !p x) ∧ y.1.drop m = s.drop m) (s, (i : Int)) (by omega) (by omega) ⟨i, i + 1, rfl, by omega, by omega, by omega, rfl, ?_, rfl⟩ (fun j y h1 h2 hI => ?_) (fun j y hj hI => ?_)) fun y hy => ?_
    · rw [List.take_add_one, hx, List.filter_append, List.filter_eq_self.2 fun y hy => by rw [h y hy]; rfl]
      simp [hpx]
    · obtain ⟨L, k'⟩ := y
      obtain ⟨k, m, rfl, rfl, h3, h4, h5, h6, h7⟩ := hI
      simp only at h5 h6 h7
      have hm : m < s.length := by omega
      have hget : L[m]? = some s[m] := by
        have e1 : (L.drop m)[0]? = (s.drop m)[0]? := by rw [h7]
        rw [List.getElem?_drop, List.getElem?_drop, Nat.add_zero, List.getElem?_eq_getElem hm] at e1
        exact e1
      have c := hp s[m] (List.getElem_mem hm)
      have e : s.take (m + 1) = s.take m ++ [s[m]] := by rw [List.take_add_one]; simp [hm]
      have h8 : L.drop (m + 1) = s.drop (m + 1) := by
        have := congrArg (List.drop 1) h7
        rwa [List.drop_drop, List.drop_drop] at this
      generalize s[m] = x' at hget c e
      refine M.TC_bindC (M.Conv_idx hget) (M.TC_bindC c ?_)
      cases hpx' : p x' with
      | true =>
        refine M.TC_bindC (x := (L, (k : Int))) (M.Conv_ite (fun t => by cases t) (fun _ => M.Conv_ret _)) (M.TC_ret (.inl ⟨_, rfl, k, m + 1, rfl, by omega, by omega, by omega, h5, ?_, h8⟩))
        rw [e, List.filter_append, h6]
        simp [hpx']
      | false =>
        have hk : k < L.length := by omega
        refine M.TC_bindC (x := (L.set k x', (k : Int) + 1)) (M.Conv_ite (fun _ => M.Conv_bind (M.Conv_idx (List.getElem?_eq_getElem hk)) (M.Conv_bind (M.Conv_upd hk) ((M.Conv_ret _).of ?_))) (fun t => by cases t)) (M.TC_ret (.inl ⟨_, rfl, k + 1, m + 1, by simp, by omega, by omega, by omega, by simpa using h5, ?_, ?_⟩))
        · rw [w64_eq _ (by omega)]
        · simp only
          rw [e, List.filter_append, ← h6, List.take_add_one, List.getElem?_set_self hk, List.take_set_of_le (Nat.le_refl _)]
          simp [hpx']
        · simp only
          rw [List.drop_set_of_lt (by omega)]; exact h8
    · obtain ⟨k, m, h1, rfl, h3, h4, h5, h6, h7⟩ := hI
      have : m = s.length := by omega
      subst this
      rw [List.take_of_length_le (Nat.le_refl _)] at h6
      exact ⟨k, h1, h3, h5, h6⟩
    · obtain ⟨L, k'⟩ := y
      obtain ⟨k, rfl, h1, h2, h3⟩ := hy
      simp only at h2 h3
      have hlk : (L.take k).length = k := by rw [List.length_take]; omega
      refine M.TC_bindC (M.Conv_sub (by omega) (by show (k : Int) ≤ (s.length : Int); omega) (by show (s.length : Int) ≤ (L.length : Int); omega)) (M.TC_bindC (M.Conv_sub (by omega) (by omega) (by simp; omega)) (M.TC_ret ?_))
      simp only [Int.toNat_zero, List.drop_zero, Int.toNat_natCast, Nat.sub_zero]
      have e3 : (L.take k ++ List.replicate (s.length - k) []).take k = L.take k := by rw [List.take_append_of_le_length (by omega), List.take_of_length_le (by omega)]
      exact e3.trans h3
/-- the components that have an arc -/
def keepF (rr : Nat → Nat → Bool) (c : Nat → Nat → Bool) (n : Nat) : List (List Int) := ((List.range n).filter fun v => ((compF rr n v).head? == some (v : Int)) && (List.range n).any (c v)).map (compF rr n)
theorem lcomps_both {a : List (List Int)} (hm : Mat a a.length) {l : List Nat} {W : Int} {r : TRatio} {S : List (List Int)} (h : CritP a l W r S) (hmat : M.Conv (spec_l06Matrix a) (matF a.length a.length (critF (matF a.length a.length (shF a r.Den r.Num)) S a)))
    (harc : M.Conv (spec_l06Arcs a) ((arcsV (critB (matF a.length a.length (shF a r.Den r.Num)) S) a.length a.length).map encA)) :
    ∃ rr : Nat → Nat → Bool, (∀ v i, v < a.length → i < a.length → (rr v i = true ↔ Rch (arcE (matF a.length a.length (critF (matF a.length a.length (shF a r.Den r.Num)) S a))) a.length v i)) ∧
      M.Conv (impl_criticalComponents (matF a.length a.length (critF (matF a.length a.length (shF a r.Den r.Num)) S a))) (keepF rr (critB (matF a.length a.length (shF a r.Den r.Num)) S) a.length) ∧
      M.Conv (spec_l06Components a) (keepF rr (critB (matF a.length a.length (shF a r.Den r.Num)) S) a.length) := by
  have hrows := hm.rows
  have hnodes := nodes_conv (by omega) harc
  have harcs : ∀ {i k : Nat}, i < a.length → k < a.length → (arcE (matF a.length a.length (critF (matF a.length a.length (shF a r.Den r.Num)) S a)) k i ↔ critB (matF a.length a.length (shF a r.Den r.Num)) S k i = true) := fun hi hk => h.arc hm hi hk
  have hkeep := fun {rr : Nat → Nat → Bool} (hr : ∀ v i, v < a.length → i < a.length → (rr v i = true ↔ Rch (arcE (matF a.length a.length (critF (matF a.length a.length (shF a r.Den r.Num)) S a))) a.length v i)) {v : Nat} (hv : v < a.length) => h.keep hm hr hv
  generalize critB (matF a.length a.length (shF a r.Den r.Num)) S = c at *
  have hC : ∀ {i j : Nat}, i < a.length → j < a.length → M.Conv (M.idx (matF a.length a.length (critF (matF a.length a.length (shF a r.Den r.Num)) S a)) (i : Int)) (rowN (matF a.length a.length (critF (matF a.length a.length (shF a r.Den r.Num)) S a)) i) ∧ M.Conv (M.idx (rowN (matF a.length a.length (critF (matF a.length a.length (shF a r.Den r.Num)) S a)) i) (j : Int)) (entA (matF a.length a.length (critF (matF a.length a.length (shF a r.Den r.Num)) S a)) i j) := fun {i j} hi hj => by
    have hs : Shp (matF a.length a.length (critF (matF a.length a.length (shF a r.Den r.Num)) S a)) a.length := shp_of (by omega) (by omega)
    have hl := matF_len a.length a.length (critF (matF a.length a.length (shF a r.Den r.Num)) S a)
    have hrl := hs.row _ (List.mem_of_getElem? (rowN_get (a := matF a.length a.length (critF (matF a.length a.length (shF a r.Den r.Num)) S a)) (i := i) (by omega)))
    have g2 := nd_read (l := rowN (matF a.length a.length (critF (matF a.length a.length (shF a r.Den r.Num)) S a)) i) (i := j) (by omega)
    rw [nd_row (by omega)] at g2
    exact ⟨get_row (rowN_get (by omega)), g2⟩
  have hsC : Shp (matF a.length a.length (critF (matF a.length a.length (shF a r.Den r.Num)) S a)) a.length := shp_of (by omega) (by omega)
  have hlC := matF_len a.length a.length (critF (matF a.length a.length (shF a r.Den r.Num)) S a)
  generalize matF a.length a.length (critF (matF a.length a.length (shF a r.Den r.Num)) S a) = C at *
  obtain ⟨rr, k1, k2, k3⟩ := components_both (a := C) (by rw [hlC]; exact hsC)
  rw [hlC] at k1 k2 k3
  refine ⟨rr, k3, ?_, ?_⟩
  · -- the program's road
    let p : List Int → Bool := fun x => (x.length == 1) && (entA C (x.headD 0).toNat (x.headD 0).toNat == -1000000000000000)
    have hd : ∀ x ∈ compsF rr a.length, ∃ v, v < a.length ∧ x.head? = some (v : Int) := fun x hx => by
      unfold compsF at hx
      obtain ⟨v, hv, rfl⟩ := List.mem_map.1 hx
      rw [List.mem_filter, List.mem_range] at hv
      exact ⟨v, hv.1, eq_of_beq hv.2⟩
    have hp : ∀ x ∈ compsF rr a.length, M.Conv (impl_criticalComponents_1 x C) (p x) := fun x hx => by
      obtain ⟨v, hv, e⟩ := hd x hx
      have e0 : x[0]? = some (v : Int) := by rw [← List.head?_eq_getElem?]; exact e
      have e1 : (x.headD 0).toNat = v := by rw [List.headD_eq_head?_getD, e]; rfl
      unfold impl_criticalComponents_1
      refine M.Conv_bind (M.Conv_idx (i := 0) e0) (M.Conv_bind (x := p x) (M.Conv_ite (fun t => M.Conv_bind (hC hv hv).1 (M.Conv_bind (hC hv hv).2 ((M.Conv_ret _).of ?_))) (fun t => (M.Conv_ret _).of ?_)) (M.Conv_ret _))
      · have t : x.length = 1 := by have := eq_of_beq t; omega
        simp only [p, e1, t]; simp
      · have t : x.length ≠ 1 := fun e => by rw [e] at t; simp at t
        simp only [p]
        rw [show (x.length == 1) = false by simpa using t]; rfl
    have hdel := del_ok (s := compsF rr a.length) (del := C) (p := p) (by have := compsF_len (r := rr) (n := a.length); omega) hp
    unfold impl_criticalComponents
    refine M.Conv_bind k2 (M.Conv_bind hdel ((M.Conv_ret _).of ?_))
    unfold compsF keepF
    rw [List.filter_map, List.filter_filter]
    congr 1
    refine List.filter_congr fun v hv => ?_
    have hv := List.mem_range.1 hv
    simp only [Function.comp]
    rw [Bool.and_comm]
    cases hh : (compF rr a.length v).head? == some (v : Int) with
    | false => rfl
    | true =>
      simp only [Bool.true_and]
      have e := eq_of_beq hh
      have e1 : ((compF rr a.length v).headD 0).toNat = v := by rw [List.headD_eq_head?_getD, e]; rfl
      have hk := hkeep k3 hv
      have ha := harcs hv hv
      unfold arcE at ha
      rw [Bool.eq_iff_iff]
      simp only [p, e1]
      rw [List.any_eq_true]
      simp only [List.mem_range]
      rw [hk]
      simp only [Bool.not_eq_true', Bool.and_eq_false_iff, beq_eq_false_iff_ne, ne_eq]
      rw [← Bool.not_eq_true (c v v), ← ha]
      by_cases q1 : (compF rr a.length v).length = 1 <;> by_cases q2 : entA C v v = -1000000000000000 <;> simp [q1, q2]
  · unfold spec_l06Components
    refine M.Conv_bind hmat (M.Conv_bind k1 (M.Conv_bind hnodes (M.Conv_bind (x := keepF rr c a.length) ?_ (M.Conv_ret _))))
    have hcl := compsF_len (r := rr) (n := a.length)
    have hkf : keepF rr c a.length = (compsF rr a.length).filter fun x => (toI (nodesC c a.length a.length)).any fun y => y == x.headD 0 := by
      unfold compsF keepF
      rw [List.filter_map, List.filter_filter]
      congr 1
      refine List.filter_congr fun v hv => ?_
      have hv := List.mem_range.1 hv
      simp only [Function.comp]
      rw [Bool.and_comm]
      cases hh : (compF rr a.length v).head? == some (v : Int) with
      | false => simp
      | true =>
        have e := eq_of_beq hh
        rw [Bool.and_true, Bool.and_true, List.headD_eq_head?_getD, e]
        rw [Bool.eq_iff_iff, List.any_eq_true (p := fun y => y == _)]
        simp only [Option.getD_some, beq_iff_eq]
        constructor
        · intro hany
          refine ⟨(v : Int), toI_mem.2 ?_, rfl⟩
          unfold nodesC
          rw [List.mem_filter, List.mem_range]
          exact ⟨hv, hany⟩
        · rintro ⟨y, hy, rfl⟩
          have := toI_mem.1 hy
          unfold nodesC at this
          rw [List.mem_filter] at this
          exact this.2
    rw [hkf]
    have hd : ∀ x ∈ compsF rr a.length, ∃ v : Int, x[0]? = some v ∧ x.headD 0 = v := fun x hx => by
      unfold compsF at hx
      obtain ⟨v, hv, rfl⟩ := List.mem_map.1 hx
      rw [List.mem_filter, List.mem_range] at hv
      have e := eq_of_beq hv.2
      exact ⟨v, by rw [← List.head?_eq_getElem?]; exact e, by rw [List.headD_eq_head?_getD, e]; rfl⟩
    generalize compsF rr a.length = s at *
    have hnl : (toI (nodesC c a.length a.length)).length ≤ 10 := by
      unfold nodesC
      rw [List.length_map]
      have := List.length_filter_le (fun j => (List.range a.length).any (c j)) (List.range a.length)
      rw [List.length_range] at this
      omega
    generalize toI (nodesC c a.length a.length) = N at *
    have e0 : s.filter (fun x => N.any fun y => y == x.headD 0) = (s.take s.length).filter (fun x => N.any fun y => y == x.headD 0) := by rw [List.take_length]
    rw [e0]
    refine Conv_forV (n := s.length) (fun k => (s.take k).filter fun x => N.any fun y => y == x.headD 0) (by omega) fun k hk => ?_
    have e : s.take (k + 1) = s.take k ++ [s[k]] := by rw [List.take_add_one]; simp [hk]
    have hx := List.getElem?_eq_getElem hk
    obtain ⟨v, hv, hv2⟩ := hd s[k] (List.getElem_mem hk)
    have hfl := List.length_filter_le (fun x => N.any fun y => y == x.headD 0) (s.take k)
    rw [List.length_take] at hfl
    generalize s[k] = x at *
    refine M.Conv_bind (M.Conv_idx hx) (M.Conv_bind (M.Conv_idx (i := 0) hv) (M.Conv_bind (l01Has_ok (l := N) v (by omega)) (M.Conv_bind (x := (s.take (k + 1)).filter fun x => N.any fun y => y == x.headD 0) (M.Conv_ite (fun t => ?_) (fun t => ?_)) (M.Conv_ret _))))
    · refine M.Conv_bind (M.Conv_idx hx) (M.Conv_bind ((M.Conv_app (by rw [List.length_cons, List.length_nil]; omega)).of ?_) (M.Conv_ret _))
      rw [e, List.filter_append, List.filter_cons, hv2, if_pos t]; rfl
    · refine (M.Conv_ret _).of ?_
      rw [e, List.filter_append, List.filter_cons, hv2, if_neg (by rw [t]; simp)]; simp

def lenB (F : List Int → Int → M Int) (a_ : List (List Int)) (path : List Int) (g : Int) : M Int := M.bind (M.idx path 0) (fun x1 => M.bind (M.idx path (w64 ((path.length : Int) - 1))) (fun x2 => M.bind (M.idx a_ x1) (fun x3 => M.bind (M.idx x3 x2) (fun x4 => M.bind (M.ite (x4 != (-1000000000000000)) (M.bind (spec_l01Divisor g (path.length : Int)) (fun x5 => M.ret x5)) (M.ret g)) (fun (s1 : Int) => M.bind (M.forI (w64 (x1 + 1)) (a_.length : Int) (fun s => s) (fun i1 => (fun (s2 : Int) => M.bind (M.idx a_ i1) (fun x7 => M.bind (M.idx x7 x2) (fun x8 => M.bind (M.ite (x8 != (-1000000000000000)) (M.bind (spec_l01Has path i1) (fun x10 => M.ret (!x10))) (M.ret false)) (fun x9 => M.bind (M.ite x9 (M.bind (spec_l01Own path) (fun x11 => M.bind (M.app x11 ([i1] : List Int)) (fun l1 => M.bind (F l1 s2) (fun x12 => M.ret x12)))) (M.ret s2)) (fun (s3 : Int) => M.ret (.inl s3))))))) s1) (fun x6 => M.ret x6))))))
theorem lenR_eq (k : Nat) (a : List (List Int)) (path : List Int) (g : Int) : spec_l06Lengths_R (k + 1) a path g = lenB (fun p g => spec_l06Lengths_R k a p g) a path g := rfl
def Ld (a : List (List Int)) (d : Nat) (path : List Int) (g : Int) : M Int := fun n => spec_l06Lengths_R (n - d) a path g n
theorem lenB_at {F G : List Int → Int → M Int} {a : List (List Int)} {path : List Int} {g : Int} {n : Nat} (h : ∀ p w, F p w n = G p w n) : lenB F a path g n = lenB G a path g n := by
  unfold lenB
  refine M.bind_at rfl fun x1 => M.bind_at rfl fun x2 => M.bind_at rfl fun x3 => M.bind_at rfl fun x4 => M.bind_at rfl fun x5 => M.bind_at (M.for_at fun i s => ?_) fun x => rfl
  exact M.bind_at rfl fun x7 => M.bind_at rfl fun x8 => M.bind_at rfl fun x9 => M.bind_at (M.ite_at (M.bind_at rfl fun x11 => M.bind_at rfl fun l1 => M.bind_at (h _ _) fun _ => rfl) rfl) fun _ => rfl
theorem Ld_step {a : List (List Int)} {d n : Nat} {path : List Int} {g : Int} (h : d < n) : Ld a d path g n = lenB (Ld a (d + 1)) a path g n := by
  obtain ⟨k, hk⟩ : ∃ k, n - d = k + 1 := ⟨n - d - 1, by omega⟩
  show spec_l06Lengths_R (n - d) a path g n = _
  rw [hk, lenR_eq]
  refine lenB_at fun p w => ?_
  show spec_l06Lengths_R k a p w n = spec_l06Lengths_R (n - (d + 1)) a p w n
  rw [show n - (d + 1) = k by omega]
/-- q: the greatest common divisor of g and of the lengths of the written cycles of which Q holds -/
def LenP (a : List (List Int)) (n : Nat) (Q : List Nat → Prop) (g q : Nat) : Prop := q ≤ 10 ∧ ∀ d : Nat, d ∣ q ↔ d ∣ g ∧ ∀ l w, WC a n l w → Q l → d ∣ l.length
theorem dvd_gcd {d a b : Nat} : d ∣ Nat.gcd a b ↔ d ∣ a ∧ d ∣ b := ⟨fun h => ⟨Nat.dvd_trans h (Nat.gcd_dvd_left a b), Nat.dvd_trans h (Nat.gcd_dvd_right a b)⟩, fun h => Nat.dvd_gcd h.1 h.2⟩
theorem lens_tc {a : List (List Int)} {n : Nat} (hs : Shp a n) (al : a.length = n) : ∀ (m d : Nat) (h t : Nat) (x : List Nat) (w : Int) (g : Nat), (x ++ [t]).length + m = n → (x ++ [t]).head? = some h → (x ++ [t]).Nodup → (∀ y ∈ x ++ [t], h ≤ y) → Chn a n (x ++ [t]) w → g ≤ 10 → M.TC (Ld a d (toI (x ++ [t])) (g : Int)) (fun q => ∃ q' : Nat, q = q' ∧ LenP a n (fun l => (x ++ [t]) <+: l) g q') := by
  have hrows := hs.rows
  intro m
  induction m with
  | zero => ?_
  | succ m ih => ?_
  all_goals
    intro d h t x w g hm hh hnd hmin hc hg
    have hlen : (x ++ [t]).length ≤ n := nodup_lt n _ hnd hc.lt
    have ht := hc.last_lt
    have hhm : h ∈ x ++ [t] := List.mem_of_mem_head? (by rw [hh]; rfl)
    have hhn := hc.lt h hhm
    refine M.TC_at (d + 1) (fun k hk => Ld_step (by omega)) ?_
    have hpl : (toI (x ++ [t])).length = x.length + 1 := by simp
    have g0 : M.Conv (M.idx (toI (x ++ [t])) 0) (h : Int) := M.Conv_get (by omega) (toI_get (i := 0) (by rw [← List.head?_eq_getElem?]; exact hh))
    have g1 : M.Conv (M.idx (toI (x ++ [t])) (w64 (((toI (x ++ [t])).length : Int) - 1))) (t : Int) := by
      rw [hpl, w64_eq _ (by simp at hlen; omega)]
      exact M.Conv_get (by omega) (toI_get (i := (((x.length + 1 : Nat) : Int) - 1).toNat) (by rw [show (((x.length + 1 : Nat) : Int) - 1).toNat = x.length by omega]; simp))
    obtain ⟨r0, e1, _, e2⟩ := ent_read hs (i := h) (j := t) (by omega) ht
    -- the cycle that the path itself is
    have self : ∀ {l : List Nat} {w' : Int}, WC a n l w' → (x ++ [t]) <+: l → l = x ++ [t] ∨ ∃ v, h < v ∧ v < n ∧ (x ++ [t] ++ [v]) <+: l := fun {l w'} hw hp => by
      obtain ⟨z, rfl⟩ := hp
      cases z with
      | nil => exact .inl (by simp)
      | cons v z =>
        have hv : v < n := hw.cl.lt v (by simp)
        have hhv : h < v := by
          cases hx : x ++ [t] with
          | nil => rw [hx] at hh; cases hh
          | cons h' r =>
            rw [hx] at hh
            have e9 : h' = h := by simpa using hh
            subst e9
            exact hw.fst h' (r ++ v :: z) (by rw [hx]; rfl) v (by simp)
        exact .inr ⟨v, hhv, hv, ⟨z, by simp⟩⟩
    have chk : ∃ g1 : Nat, M.Conv (M.ite (entA a h t != (-1000000000000000)) (M.bind (spec_l01Divisor (g : Int) ((toI (x ++ [t])).length : Int)) (fun x5 => M.ret x5)) (M.ret (g : Int))) (g1 : Int) ∧ LenP a n (fun l => l = x ++ [t]) g g1 := by
      cases q : entA a h t != (-1000000000000000) with
      | true =>
        have hne : entA a h t ≠ -1000000000000000 := by simpa using q
        have hwc : ∃ w', WC a n (x ++ [t]) w' := by
          refine ⟨w + entA a h t, ?_, hnd, fun h' r e y hy => ?_⟩
          · cases hx : x ++ [t] with
            | nil => rw [hx] at hh; cases hh
            | cons h' r =>
              rw [hx] at hh
              have e9 : h' = h := by simpa using hh
              subst e9
              have := hc.snoc hhn hne
              rw [hx] at this
              exact ⟨h', r, rfl, this⟩
          · rw [e] at hh hnd
            have e9 : h' = h := by simpa using hh
            subst e9
            have h1 := hmin y (by rw [e]; exact List.mem_cons_of_mem _ hy)
            have h2 : y ≠ h' := fun c => (List.nodup_cons.1 hnd).1 (c ▸ hy)
            omega
        have hll : (x ++ [t]).length = x.length + 1 := by simp
        refine ⟨Nat.gcd g (x.length + 1), M.Conv_bind ((divisor_gcd (a := (g : Int)) (b := ((toI (x ++ [t])).length : Int)) (by omega) (by rw [hpl]; omega)).of (by rw [hpl]; rfl)) (M.Conv_ret _), ?_, fun d' => ?_⟩
        · have h9 := Nat.le_of_dvd (by omega) (Nat.gcd_dvd_right g (x.length + 1))
          omega
        · rw [dvd_gcd]
          constructor
          · rintro ⟨h1, h2⟩
            exact ⟨h1, fun l w' _ e => by rw [e, hll]; exact h2⟩
          · rintro ⟨h1, h2⟩
            obtain ⟨w', hw⟩ := hwc
            exact ⟨h1, by rw [← hll]; exact h2 _ w' hw rfl⟩
      | false =>
        refine ⟨g, M.Conv_ret _, hg, fun d' => ⟨fun h1 => ⟨h1, fun l w' hw e => ?_⟩, fun h1 => h1.1⟩⟩
        exfalso
        subst e
        obtain ⟨h', r, e, hcl⟩ := hw.cl
        rw [e] at hh
        have e9 : h' = h := by simpa using hh
        subst e9
        obtain ⟨w1, rfl, hc1, ha⟩ := hcl.snoc_inv
        simp at q
        exact ha q
    obtain ⟨g1', c1, p1⟩ := chk
    have ew : w64 ((h : Int) + 1) = ((h + 1 : Nat) : Int) := by rw [w64_eq _ (by omega)]; omega
    unfold lenB
    refine M.TC_bindC g0 (M.TC_bindC g1 (M.TC_bindC e1 (M.TC_bindC e2 (M.TC_bindC c1 ?_))))
    rw [ew, al]
    refine M.TC_bind (Mid := fun (y : Int) => ∃ q' : Nat, y = (q' : Int) ∧ LenP a n (fun l => (x ++ [t]) <+: l) g q') (M.TC_for (fun i (s : Int) => ∃ q' : Nat, s = (q' : Int) ∧ LenP a n (fun l => l = x ++ [t] ∨ ∃ v : Nat, h < v ∧ (v : Int) < i ∧ (x ++ [t] ++ [v]) <+: l) g q') (g1' : Int) (by omega) (by omega) ⟨g1', rfl, p1.1, fun d' => ?_⟩ (fun i s i1 i2 hI => ?_) (fun i s hi hI => ?_)) (fun y hy => M.TC_ret hy)
    · rw [p1.2 d']
      constructor
      · rintro ⟨h1, h2⟩
        refine ⟨h1, fun l w' hw hq => ?_⟩
        rcases hq with e | ⟨v, h3, h4, _⟩
        · exact h2 l w' hw e
        · omega
      · rintro ⟨h1, h2⟩
        exact ⟨h1, fun l w' hw e => h2 l w' hw (.inl e)⟩
    · obtain ⟨v, rfl⟩ : ∃ v : Nat, i = v := ⟨i.toNat, by omega⟩
      have hv : v < n := by omega
      obtain ⟨s', rfl, hs1, hs2⟩ := hI
      obtain ⟨rv, f1, _, f2⟩ := ent_read hs (i := v) (j := t) (by omega) ht
      -- one node more
      have more : ∀ q' : Nat, LenP a n (fun l => (x ++ [t] ++ [v]) <+: l) s' q' → LenP a n (fun l => l = x ++ [t] ∨ ∃ u : Nat, h < u ∧ (u : Int) < (v : Int) + 1 ∧ (x ++ [t] ++ [u]) <+: l) g q' := fun q' hq => by
        refine ⟨hq.1, fun d' => ?_⟩
        rw [hq.2 d', hs2 d']
        constructor
        · rintro ⟨⟨h1, h2⟩, h3⟩
          refine ⟨h1, fun l w' hw hc => ?_⟩
          rcases hc with e | ⟨u, u1, u2, u3⟩
          · exact h2 l w' hw (.inl e)
          · by_cases e : u = v
            · subst e; exact h3 l w' hw u3
            · exact h2 l w' hw (.inr ⟨u, u1, by omega, u3⟩)
        · rintro ⟨h1, h2⟩
          refine ⟨⟨h1, fun l w' hw hc => ?_⟩, fun l w' hw hc => h2 l w' hw (.inr ⟨v, by omega, by omega, hc⟩)⟩
          rcases hc with e | ⟨u, u1, u2, u3⟩
          · exact h2 l w' hw (.inl e)
          · exact h2 l w' hw (.inr ⟨u, u1, by omega, u3⟩)
      have test : M.Conv (M.ite (entA a v t != (-1000000000000000)) (M.bind (spec_l01Has (toI (x ++ [t])) (v : Int)) (fun x10 => M.ret (!x10))) (M.ret false)) ((entA a v t != (-1000000000000000)) && !((toI (x ++ [t])).any fun y => y == (v : Int))) := by
        cases q : entA a v t != (-1000000000000000) with
        | true => exact M.Conv_bind (l01Has_ok _ (by rw [hpl]; simp at hlen; omega)) (M.Conv_ret _)
        | false => exact M.Conv_ret _
      refine M.TC_bindC f1 (M.TC_bindC f2 (M.TC_bindC test ?_))
      cases q2 : (entA a v t != (-1000000000000000)) && !((toI (x ++ [t])).any fun y => y == (v : Int)) with
      | false =>
        refine M.TC_bindC (x := (s' : Int)) (M.Conv_ite (fun t => by cases t) (fun _ => M.Conv_ret _)) (M.TC_ret (.inl ⟨_, rfl, s', rfl, more s' ⟨hs1, fun d' => ⟨fun h1 => ⟨h1, fun l w' hw hp => ?_⟩, fun h1 => h1.1⟩⟩⟩))
        exfalso
        obtain ⟨z, rfl⟩ := hp
        simp only [Bool.and_eq_false_iff, bne_eq_false_iff_eq, Bool.not_eq_false', List.any_eq_true, beq_iff_eq] at q2
        rcases q2 with hb | ⟨y, hy, hyv⟩
        · obtain ⟨h', r, e, hcl⟩ := hw.cl
          rw [show x ++ [t] ++ [v] ++ z ++ [h'] = x ++ [t] ++ v :: (z ++ [h']) by simp] at hcl
          obtain ⟨w1, w2, _, c1, _⟩ := hcl.split
          obtain ⟨_, _, _, ha⟩ := c1.snoc_inv
          exact ha hb
        · subst hyv
          have hmem : v ∈ x ++ [t] := toI_mem.1 hy
          have := hw.nd
          rw [List.append_assoc, List.nodup_append] at this
          exact this.2.2 v hmem v (by simp) rfl
      | true =>
        simp only [Bool.and_eq_true, bne_iff_ne, ne_eq, Bool.not_eq_true', List.any_eq_false, beq_iff_eq] at q2
        have hvn : v ∉ x ++ [t] := fun hm => q2.2 _ (toI_mem.2 hm) rfl
        have hnd2 : (x ++ [t] ++ [v]).Nodup := by
          rw [List.nodup_append]
          exact ⟨hnd, by simp, fun b hb c hc e => by simp at hc; subst hc; exact hvn (e ▸ hb)⟩
        have hc2 := hc.snoc hv q2.1
        have hlen2 := nodup_lt n _ hnd2 hc2.lt
        have eo : M.Conv (spec_l01Own (toI (x ++ [t]))) (toI (x ++ [t])) := spec_l01Own_ok (by unfold smI; rw [hpl]; simp at hlen; omega)
        have ea : M.Conv (M.app (toI (x ++ [t])) ([(v : Int)] : List Int)) (toI (x ++ [t] ++ [v])) := (M.Conv_app (by rw [hpl]; simp at hlen ⊢; omega)).of (by simp)
        first
        | exact absurd hlen2 (by simp at hm ⊢; omega)
        | (have rc := ih (d + 1) h v (x ++ [t]) (w + entA a v t) s' (by simp at hm ⊢; omega) (by rw [List.head?_append, hh]; rfl) hnd2 (fun y hy => by
            rcases List.mem_append.1 hy with hy | hy
            · exact hmin y hy
            · simp at hy; omega) hc2 hs1
           obtain ⟨q, cq, q', rfl, hq⟩ := rc
           exact M.TC_bindC (x := (q' : Int)) (M.Conv_ite (fun _ => M.Conv_bind eo (M.Conv_bind ea (M.Conv_bind cq (M.Conv_ret _)))) (fun t => by cases t)) (M.TC_ret (.inl ⟨_, rfl, q', rfl, more q' hq⟩)))
    · obtain ⟨q', rfl, hq1, hq2⟩ := hI
      refine ⟨q', rfl, hq1, fun d' => ?_⟩
      rw [hq2 d']
      constructor
      · rintro ⟨h1, h2⟩
        refine ⟨h1, fun l w' hw hp => h2 l w' hw ?_⟩
        rcases self hw hp with e | ⟨v, v1, v2, v3⟩
        · exact .inl e
        · exact .inr ⟨v, v1, by omega, v3⟩
      · rintro ⟨h1, h2⟩
        refine ⟨h1, fun l w' hw hp => h2 l w' hw ?_⟩
        rcases hp with e | ⟨v, v1, v2, v3⟩
        · rw [e]; exact List.prefix_refl _
        · exact (List.prefix_append _ _).trans v3
/-- .. from one node on -/
theorem len1_tc {a : List (List Int)} {n : Nat} (hs : Shp a n) (al : a.length = n) {v g : Nat} (hv : v < n) (hg : g ≤ 10) : ∃ q : Nat, M.Conv (spec_l06Lengths a ([(v : Int)] : List Int) (g : Int)) (q : Int) ∧ LenP a n (fun l => [v] <+: l) g q := by
  obtain ⟨q, cq, q', rfl, hq⟩ := lens_tc hs al (n - 1) 0 v v [] 0 g (by simp; omega) rfl (by simp) (by simp) (.one v hv) hg
  exact ⟨q', cq, hq⟩

theorem Wlk.rch {a : List (List Int)} {n j k i : Nat} {w : Int} (h : Wlk a n j k i w) : Rch (arcE a) n j i := by
  induction h with
  | nil hj => exact .refl _ _ _
  | step k i i' w hw hi ha ih => exact ih.step hw.lt.2 hi ha
theorem Rch.wlk {a : List (List Int)} {n j i : Nat} (hj : j < n) (h : Rch (arcE a) n j i) : ∃ k w, Wlk a n j k i w := by
  obtain ⟨k, h⟩ := h
  induction h with
  | nil k => exact ⟨0, 0, .nil hj⟩
  | step k j' i' _ hj' hi he ih =>
    obtain ⟨k', w', h'⟩ := ih
    exact ⟨k' + 1, _, .step k' j' i' w' h' hi he⟩
/-- the nodes of a closed chain reach each other -/
theorem Cl.reach {a : List (List Int)} {n : Nat} {l : List Nat} {w : Int} (h : Cl a n l w) {x y : Nat} (hx : x ∈ l) (hy : y ∈ l) : Rch (arcE a) n x y := by
  obtain ⟨p, z, rfl⟩ := List.append_of_mem hx
  obtain ⟨h0, r, e, hc⟩ := h.rot
  simp only [List.cons_append, List.cons.injEq] at e
  obtain ⟨rfl, rfl⟩ := e
  have hy2 : y ∈ x :: (z ++ p) := by
    simp only [List.mem_append, List.mem_cons] at hy ⊢
    rcases hy with h | h | h
    · exact .inr (.inr h)
    · exact .inl h
    · exact .inr (.inl h)
  obtain ⟨s, t, e2⟩ := List.append_of_mem hy2
  have hc : Chn a n (s ++ y :: (t ++ [x])) w := by
    have : (x :: z ++ p) ++ [x] = s ++ y :: (t ++ [x]) := by
      rw [List.cons_append, e2]; simp
    rw [← this]; exact hc
  obtain ⟨w1, w2, _, c1, _⟩ := hc.split
  refine (Wlk.of_chn (j := x) _ c1 ?_ rfl).rch
  cases s with
  | nil =>
    simp only [List.nil_append, List.cons.injEq] at e2
    simp [e2.1]
  | cons s0 s =>
    simp only [List.cons_append, List.cons.injEq] at e2
    simp [e2.1]
/-- d divides the lengths of all closed walks at v -/
def DivC (a : List (List Int)) (n v d : Nat) : Prop := ∀ k w, Wlk a n v k v w → d ∣ k
theorem DivC.move {a : List (List Int)} {n v u d : Nat} (hv : v < n) (hu : u < n) (h1 : Rch (arcE a) n v u) (h2 : Rch (arcE a) n u v) (h : DivC a n v d) : DivC a n u d := by
  intro k w hw
  obtain ⟨k1, w1, c1⟩ := h1.wlk hv
  obtain ⟨k2, w2, c2⟩ := h2.wlk hu
  have d1 := h _ _ (c1.trans c2)
  have d2 := h _ _ ((c1.trans hw).trans c2)
  have e : k1 + k + k2 = (k1 + k2) + k := by omega
  rw [e] at d2
  exact (Nat.dvd_add_right d1).1 d2
/-- the period of the component of v -/
theorem l06Period_ok {a b : List (List Int)} {n : Nat} (hb : M.Conv (spec_l06Matrix a) b) (hs : Shp b n) (bl : b.length = n) {rr : Nat → Nat → Bool} (hr : ∀ v i, v < n → i < n → (rr v i = true ↔ Rch (arcE b) n v i)) {v : Nat} (hv : v < n) :
    ∃ q : Nat, M.Conv (spec_l06Period a (compF rr n v)) (q : Int) ∧ ∀ d : Nat, d ∣ q ↔ DivC b n v d := by
  have hrows := hs.rows
  let N : List Nat := (List.range n).filter fun w => rr v w && rr w v
  have hN : compF rr n v = toI N := rfl
  have hNm : ∀ u, u ∈ N ↔ u < n ∧ Rch (arcE b) n v u ∧ Rch (arcE b) n u v := fun u => by
    simp only [N, List.mem_filter, List.mem_range, Bool.and_eq_true]
    constructor
    · rintro ⟨h1, h2, h3⟩; exact ⟨h1, (hr v u hv h1).1 h2, (hr u v h1 hv).1 h3⟩
    · rintro ⟨h1, h2, h3⟩; exact ⟨h1, (hr v u hv h1).2 h2, (hr u v h1 hv).2 h3⟩
  have hNl : N.length ≤ n := by
    have := List.length_filter_le (fun w => rr v w && rr w v) (List.range n)
    rw [List.length_range] at this
    exact this
  rw [hN]
  have key : M.TC (spec_l06Period a (toI N)) (fun q => ∃ q' : Nat, q = (q' : Int) ∧ LenP b n (fun l => ∃ u ∈ N.take N.length, [u] <+: l) 0 q') := by
    unfold spec_l06Period
    have hl : (toI N).length = N.length := by simp
    rw [hl]
    refine M.TC_bindC hb (M.TC_bind (M.TC_forN (fun k (s : Int) => ∃ q' : Nat, s = (q' : Int) ∧ LenP b n (fun l => ∃ u ∈ N.take k, [u] <+: l) 0 q') (by omega) ⟨0, rfl, by omega, fun d => by simp⟩ (fun k s hk hI => ?_)) (fun s hs => M.TC_ret hs))
    obtain ⟨q', rfl, h1, h2⟩ := hI
    have hu : pf N k < n := ((hNm _).1 (pf_mem hk)).1
    obtain ⟨q2, c2, k1, k2⟩ := len1_tc hs bl hu h1
    refine M.TC_bindC (toI_read hk) (M.TC_bindC c2 (M.TC_ret ⟨_, rfl, q2, rfl, k1, fun d => ?_⟩))
    have ht : N.take (k + 1) = N.take k ++ [pf N k] := by rw [List.take_add_one]; simp [pf, hk]
    rw [k2 d, h2 d, ht]
    constructor
    · rintro ⟨⟨a1, a2⟩, a3⟩
      refine ⟨a1, fun l w hw hx => ?_⟩
      obtain ⟨u, hu, hp⟩ := hx
      rw [List.mem_append, List.mem_singleton] at hu
      rcases hu with hu | rfl
      · exact a2 l w hw ⟨u, hu, hp⟩
      · exact a3 l w hw hp
    · rintro ⟨a1, a2⟩
      exact ⟨⟨a1, fun l w hw ⟨u, hu, hp⟩ => a2 l w hw ⟨u, List.mem_append.2 (.inl hu), hp⟩⟩, fun l w hw hp => a2 l w hw ⟨_, List.mem_append.2 (.inr (List.mem_singleton.2 rfl)), hp⟩⟩
  obtain ⟨_, cq, q, rfl, _, hq⟩ := key
  refine ⟨q, cq, fun d => ?_⟩
  rw [hq d, List.take_length]
  constructor
  · rintro ⟨_, h⟩ k w hw
    by_cases hk : k = 0
    · rw [hk]; exact Nat.dvd_zero d
    · obtain ⟨k', rfl⟩ : ∃ k', k = k' + 1 := ⟨k - 1, by omega⟩
      obtain ⟨r, hcl, hrl⟩ := hw.cl
      apply Classical.byContradiction
      intro hno
      obtain ⟨l', w', b1, b2, b3⟩ := hcl.written (P := fun k _ => ¬ d ∣ k) (fun k1 k2 _ _ hn => by
        by_cases q1 : d ∣ k1
        · by_cases q2 : d ∣ k2
          · exact absurd (Nat.dvd_add q1 q2) hn
          · exact .inr q2
        · exact .inl q1) _ rfl (by rw [List.length_cons, hrl]; exact hno)
      obtain ⟨u, r', e, _⟩ := b1.cl
      have hul := b3 u (by rw [e]; simp)
      have hun := hcl.lt u hul
      refine b2 (h l' w' b1 ⟨u, (hNm u).2 ⟨hun, hcl.reach (by simp) hul, hcl.reach hul (by simp)⟩, ⟨r', by rw [e]; rfl⟩⟩)
  · intro h
    refine ⟨Nat.dvd_zero d, fun l w hw hx => ?_⟩
    obtain ⟨u, hu, hp⟩ := hx
    obtain ⟨hun, h1, h2⟩ := (hNm u).1 hu
    obtain ⟨j, r, e, hwk⟩ := hw.cl.wlk
    obtain ⟨z, hz⟩ := hp
    have : j = u := by rw [e] at hz; simp at hz; exact hz.1.symm
    subst this
    exact (h.move hv hun h1 h2) _ _ hwk

structure Bfs (b : List (List Int)) (n : Nat) (N : List Nat) (c0 : Nat) (lev : Nat → Int) (Q : List Nat) (p : Nat) : Prop where
  nd : Q.Nodup
  sub : ∀ q ∈ Q, q ∈ N
  pos : ∀ v, v < n → (0 ≤ lev v ↔ v ∈ Q)
  lo : ∀ v, v < n → -1 ≤ lev v
  bd : ∀ v, v < n → lev v < Q.length
  wlk : ∀ v ∈ Q, ∃ w, Wlk b n c0 (lev v).toNat v w
  up : ∀ d, DivC b n c0 d → d ∣ p
  root : c0 ∈ Q ∧ lev c0 = 0
structure BfE (lev : Nat → Int) (Q : List Nat) (p : Nat) (lev' : Nat → Int) (Q' : List Nat) (p' : Nat) : Prop where
  pre : Q <+: Q'
  lev : ∀ v ∈ Q, lev' v = lev v
  p : p' ∣ p
def BfD (b : List (List Int)) (lev : Nat → Int) (Q : List Nat) (p f t : Nat) : Prop := arcE b f t → t ∈ Q ∧ (p : Int) ∣ lev f + 1 - lev t
theorem BfE.refl (lev : Nat → Int) (Q : List Nat) (p : Nat) : BfE lev Q p lev Q p := ⟨List.prefix_refl _, fun _ _ => rfl, Nat.dvd_refl _⟩
theorem BfE.trans {l1 l2 l3 : Nat → Int} {Q1 Q2 Q3 : List Nat} {p1 p2 p3 : Nat} (a : BfE l1 Q1 p1 l2 Q2 p2) (b : BfE l2 Q2 p2 l3 Q3 p3) : BfE l1 Q1 p1 l3 Q3 p3 :=
  ⟨a.pre.trans b.pre, fun v hv => (b.lev v (a.pre.subset hv)).trans (a.lev v hv), Nat.dvd_trans b.p a.p⟩
theorem BfD.keep {b : List (List Int)} {l1 l2 : Nat → Int} {Q1 Q2 : List Nat} {p1 p2 f t : Nat} (hf : f ∈ Q1) (d : BfD b l1 Q1 p1 f t) (e : BfE l1 Q1 p1 l2 Q2 p2) : BfD b l2 Q2 p2 f t := fun ha => by
  obtain ⟨h1, h2⟩ := d ha
  refine ⟨e.pre.subset h1, ?_⟩
  rw [e.lev f hf, e.lev t h1]
  exact Int.dvd_trans (Int.natCast_dvd_natCast.2 e.p) h2
theorem Bfs.len {b : List (List Int)} {n c0 p : Nat} {N : List Nat} {lev : Nat → Int} {Q : List Nat} (H : Bfs b n N c0 lev Q p) (hN : ∀ u ∈ N, u < n) : Q.length ≤ n := nodup_lt n _ H.nd fun v hv => hN v (H.sub v hv)
theorem Bfs.step {b : List (List Int)} {n c0 p : Nat} (hs : Shp b n) (bl : b.length = n) {N : List Nat} (hN : ∀ u ∈ N, u < n ∧ Rch (arcE b) n c0 u ∧ Rch (arcE b) n u c0) {lev : Nat → Int} {Q : List Nat} (H : Bfs b n N c0 lev Q p) {f t : Nat} (hf : f ∈ Q) (ht : t ∈ N) :
    ∃ lev' Q' p', Bfs b n N c0 lev' Q' p' ∧ BfE lev Q p lev' Q' p' ∧ BfD b lev' Q' p' f t ∧
      M.Conv (M.bind (M.idx b (t : Int)) (fun x10 => M.bind (M.idx x10 (f : Int)) (fun x11 => M.bind (M.ite (x11 == (-1000000000000000)) (M.ret (tab n lev, toI Q, (p : Int))) (M.bind (M.idx (tab n lev) (t : Int)) (fun x12 => M.ite (decide (x12 < 0)) (M.bind (M.idx (tab n lev) (f : Int)) (fun x13 => M.bind (M.idx (tab n lev) (t : Int)) (fun x14 => M.bind (M.upd (tab n lev) (t : Int) (w64 (x13 + 1))) (fun l4 => M.bind (M.app (toI Q) ([(t : Int)] : List Int)) (fun l5 => M.ret (l4, l5, (p : Int))))))) (M.bind (M.idx (tab n lev) (f : Int)) (fun x15 => M.bind (M.idx (tab n lev) (t : Int)) (fun x16 => M.bind (impl_absOf (w64 ((w64 (x15 + 1)) - x16))) (fun x17 => M.bind (impl_divisorOf x17 (p : Int)) (fun x18 => M.ret (tab n lev, toI Q, x18))))))))) (fun (s4 : (List Int) × (List Int) × Int) => M.ret (.inl (s4.1, s4.2.1, s4.2.2) : (List Int × List Int × Int) ⊕ (List Int × List Int × Int)))))) (.inl (tab n lev', toI Q', (p' : Int))) := by
  have hrows := hs.rows
  obtain ⟨htn, ht1, ht2⟩ := hN t ht
  have hfn := (hN f (H.sub f hf)).1
  have hlen := H.len fun u hu => (hN u hu).1
  have lf := (H.pos f hfn).2 hf
  have bf := H.bd f hfn
  have bt := H.bd t htn
  have lt := H.lo t htn
  obtain ⟨r, e1, _, e2⟩ := ent_read hs (i := t) (j := f) (by omega) hfn
  by_cases ha : entA b t f = -1000000000000000
  · refine ⟨lev, Q, p, H, .refl _ _ _, fun h => absurd ha h, M.Conv_bind e1 (M.Conv_bind e2 (M.Conv_bind (x := (tab n lev, toI Q, (p : Int))) (M.Conv_ite (fun _ => M.Conv_ret _) (fun q => by rw [ha] at q; simp at q)) (M.Conv_ret _)))⟩
  · by_cases hq : lev t < 0
    · -- a new node
      have htQ : t ∉ Q := fun h => by have := (H.pos t htn).2 h; omega
      have hne : ∀ v ∈ Q, v ≠ t := fun v hv e => htQ (e ▸ hv)
      let lev' : Nat → Int := fun v => if v = t then lev f + 1 else lev v
      have hl : ∀ v ∈ Q, lev' v = lev v := fun v hv => if_neg (hne v hv)
      have hlt : lev' t = lev f + 1 := if_pos rfl
      have hll : (Q ++ [t]).length = Q.length + 1 := by simp
      have H' : Bfs b n N c0 lev' (Q ++ [t]) p := by
        refine ⟨?_, fun q hq => ?_, fun v hv => ?_, fun v hv => ?_, fun v hv => ?_, fun v hv => ?_, H.up, ?_⟩
        · rw [List.nodup_append]
          exact ⟨H.nd, by simp, fun x hx y hy e => by simp at hy; subst hy; exact htQ (e ▸ hx)⟩
        · rcases List.mem_append.1 hq with hq | hq
          · exact H.sub q hq
          · rw [List.mem_singleton] at hq; rw [hq]; exact ht
        · rw [List.mem_append, List.mem_singleton]
          by_cases e : v = t
          · subst e; rw [hlt]; exact ⟨fun _ => .inr rfl, fun _ => by omega⟩
          · rw [show lev' v = lev v from if_neg e, H.pos v hv]
            exact ⟨.inl, fun h => h.resolve_right e⟩
        · by_cases e : v = t
          · subst e; rw [hlt]; omega
          · rw [show lev' v = lev v from if_neg e]; exact H.lo v hv
        · rw [hll]
          by_cases e : v = t
          · subst e; rw [hlt]; omega
          · rw [show lev' v = lev v from if_neg e]; have := H.bd v hv; omega
        · rcases List.mem_append.1 hv with hv | hv
          · rw [hl v hv]; exact H.wlk v hv
          · rw [List.mem_singleton] at hv
            subst hv
            obtain ⟨w, hw⟩ := H.wlk f hf
            have := Wlk.step _ f v w hw htn ha
            rw [hlt, show (lev f + 1).toNat = (lev f).toNat + 1 by omega]
            exact ⟨_, this⟩
        · exact ⟨List.mem_append.2 (.inl H.root.1), by rw [hl _ H.root.1]; exact H.root.2⟩
      refine ⟨lev', Q ++ [t], p, H', ⟨List.prefix_append _ _, hl, Nat.dvd_refl _⟩, fun _ => ⟨by simp, by rw [hl f hf, hlt]; simp⟩, ?_⟩
      refine M.Conv_bind e1 (M.Conv_bind e2 (M.Conv_bind (x := (tab n lev', toI (Q ++ [t]), (p : Int))) (M.Conv_ite (fun q => absurd (eq_of_beq q) ha) (fun _ => M.Conv_bind (idx_tab htn) (M.Conv_ite (fun _ => ?_) (fun q => by simp at q; omega)))) (M.Conv_ret _)))
      refine M.Conv_bind (idx_tab hfn) (M.Conv_bind (idx_tab htn) (M.Conv_bind (M.Conv_upd (by rw [tab_len]; exact htn)) (M.Conv_bind (M.Conv_app (by simp; omega)) ((M.Conv_ret _).of ?_))))
      rw [w64_eq _ (by omega)]
      have e3 : (tab n lev).set ((t : Int)).toNat (lev f + 1) = tab n lev' := by
        rw [Int.toNat_natCast]
        exact tab_set (by rw [hlt]) fun q _ hq => by show lev q = if q = t then _ else _; rw [if_neg hq]
      have e3' : (tab n lev).set t (lev f + 1) = tab n lev' := tab_set (by rw [hlt]) fun q _ hq => by show lev q = if q = t then _ else _; rw [if_neg hq]
      first
      | rw [e3']; simp
      | rw [e3]; simp
    · -- a node that is known
      have htQ : t ∈ Q := (H.pos t htn).1 (by omega)
      have e3 : w64 (w64 (lev f + 1) - lev t) = lev f + 1 - lev t := by rw [w64_eq (lev f + 1) (by omega), w64_eq _ (by omega)]
      have habs := absI_ok (a := lev f + 1 - lev t) (by omega)
      have hdiv := divisorI_gcd (a := (lev f + 1 - lev t).natAbs) (b := p)
      refine ⟨lev, Q, Nat.gcd (lev f + 1 - lev t).natAbs p, ⟨H.nd, H.sub, H.pos, H.lo, H.bd, H.wlk, fun d hd => ?_, H.root⟩, ⟨List.prefix_refl _, fun _ _ => rfl, Nat.gcd_dvd_right _ _⟩, fun _ => ⟨htQ, ?_⟩, ?_⟩
      · refine Nat.dvd_gcd ?_ (H.up d hd)
        obtain ⟨w1, c1⟩ := H.wlk f hf
        obtain ⟨w2, c2⟩ := H.wlk t htQ
        obtain ⟨q, w3, c3⟩ := ht2.wlk htn
        have d1 := hd _ _ ((Wlk.step _ f t w1 c1 htn ha).trans c3)
        have d2 := hd _ _ (c2.trans c3)
        have d1' : (d : Int) ∣ (((lev f).toNat + 1 + q : Nat) : Int) := Int.natCast_dvd_natCast.2 d1
        have d2' : (d : Int) ∣ (((lev t).toNat + q : Nat) : Int) := Int.natCast_dvd_natCast.2 d2
        have d3 := Int.dvd_sub d1' d2'
        rw [show (((lev f).toNat + 1 + q : Nat) : Int) - (((lev t).toNat + q : Nat) : Int) = lev f + 1 - lev t by omega] at d3
        exact Int.ofNat_dvd_left.1 d3
      · exact Int.ofNat_dvd_left.2 (Nat.gcd_dvd_left _ _)
      · refine M.Conv_bind e1 (M.Conv_bind e2 (M.Conv_bind (x := (tab n lev, toI Q, ((Nat.gcd (lev f + 1 - lev t).natAbs p : Nat) : Int))) (M.Conv_ite (fun q => absurd (eq_of_beq q) ha) (fun _ => M.Conv_bind (idx_tab htn) (M.Conv_ite (fun q => absurd (of_decide_eq_true q) hq) (fun _ => ?_)))) (M.Conv_ret _)))
        refine M.Conv_bind (idx_tab hfn) (M.Conv_bind (idx_tab htn) (M.Conv_bind (x := (((lev f + 1 - lev t).natAbs : Nat) : Int)) (by rw [e3]; exact habs) (M.Conv_bind hdiv (M.Conv_ret _))))
theorem periodOf_ok {b : List (List Int)} {n : Nat} (hs : Shp b n) (bl : b.length = n) {rr : Nat → Nat → Bool} (hr : ∀ v i, v < n → i < n → (rr v i = true ↔ Rch (arcE b) n v i)) {v : Nat} (hv : v < n) (hh : (compF rr n v).head? = some (v : Int)) :
    ∃ q : Nat, M.Conv (impl_periodOf b (compF rr n v)) (q : Int) ∧ ∀ d : Nat, d ∣ q ↔ DivC b n v d := by
  have hrows := hs.rows
  obtain ⟨N, hNdef⟩ : ∃ N : List Nat, N = (List.range n).filter fun w => rr v w && rr w v := ⟨_, rfl⟩
  have hN : compF rr n v = toI N := by rw [hNdef]; rfl
  have hNm : ∀ u, u ∈ N ↔ u < n ∧ Rch (arcE b) n v u ∧ Rch (arcE b) n u v := fun u => by
    rw [hNdef]
    simp only [List.mem_filter, List.mem_range, Bool.and_eq_true]
    constructor
    · rintro ⟨h1, h2, h3⟩; exact ⟨h1, (hr v u hv h1).1 h2, (hr u v h1 hv).1 h3⟩
    · rintro ⟨h1, h2, h3⟩; exact ⟨h1, (hr v u hv h1).2 h2, (hr u v h1 hv).2 h3⟩
  have hNl : N.length ≤ n := by
    rw [hNdef]
    have := List.length_filter_le (fun w => rr v w && rr w v) (List.range n)
    rw [List.length_range] at this
    exact this
  have hvN : v ∈ N := (hNm v).2 ⟨hv, .refl _ _ _, .refl _ _ _⟩
  rw [hN] at hh ⊢
  have hN' : ∀ u ∈ N, u < n ∧ Rch (arcE b) n v u ∧ Rch (arcE b) n u v := fun u hu => (hNm u).1 hu
  have h0 : M.Conv (M.idx (toI N) 0) (v : Int) := M.Conv_idx (i := 0) (by rw [← List.head?_eq_getElem?]; exact hh)
  let lev0 : Nat → Int := fun u => if u = v then 0 else -1
  have B0 : Bfs b n N v lev0 [v] 0 := by
    refine ⟨by simp, by simpa using hvN, fun u hu => ?_, fun u hu => ?_, fun u hu => ?_, fun u hu => ?_, fun d _ => Nat.dvd_zero d, by simp [lev0]⟩
    · simp only [lev0, List.mem_singleton]; split <;> simp_all
    · simp only [lev0]; split <;> omega
    · simp only [lev0, List.length_cons, List.length_nil]; split <;> omega
    · rw [List.mem_singleton] at hu
      subst hu
      simp only [lev0, if_pos]
      exact ⟨0, .nil hv⟩
  -- the whole search
  have hloop := M.TC_loop (ρ := List Int × List Int × Int × Int) (f := fun (s2 : (List Int) × (List Int) × Int × Int) => M.ite (decide (s2.2.2.2 < (s2.2.1.length : Int))) (M.bind (M.idx s2.2.1 s2.2.2.2) (fun x7 => M.bind (M.forI 0 ((toI N).length : Int) (fun s => s) (fun i2 => (fun (s3 : (List Int) × (List Int) × Int) => M.bind (M.idx (toI N) i2) (fun x9 => M.bind (M.idx b x9) (fun x10 => M.bind (M.idx x10 x7) (fun x11 => M.bind (M.ite (x11 == (-1000000000000000)) (M.ret (s3.1, s3.2.1, s3.2.2)) (M.bind (M.idx s3.1 x9) (fun x12 => M.ite (decide (x12 < 0)) (M.bind (M.idx s3.1 x7) (fun x13 => M.bind (M.idx s3.1 x9) (fun x14 => M.bind (M.upd s3.1 x9 (w64 (x13 + 1))) (fun l4 => M.bind (M.app s3.2.1 ([x9] : List Int)) (fun l5 => M.ret (l4, l5, s3.2.2)))))) (M.bind (M.idx s3.1 x7) (fun x15 => M.bind (M.idx s3.1 x9) (fun x16 => M.bind (impl_absOf (w64 ((w64 (x15 + 1)) - x16))) (fun x17 => M.bind (impl_divisorOf x17 s3.2.2) (fun x18 => M.ret (s3.1, s3.2.1, x18))))))))) (fun (s4 : (List Int) × (List Int) × Int) => M.ret (.inl (s4.1, s4.2.1, s4.2.2)))))))) (s2.1, s2.2.1, s2.2.2.1)) (fun x8 => M.ret (.inl (x8.1, x8.2.1, x8.2.2, (w64 (s2.2.2.2 + 1))))))) (M.ret (.inr (s2.1, s2.2.1, s2.2.2.1, s2.2.2.2))))
    (Post := fun y => ∃ (lev : Nat → Int) (Q : List Nat) (p : Nat), y.2.2.1 = (p : Int) ∧ Bfs b n N v lev Q p ∧ ∀ f ∈ Q, ∀ t ∈ N, BfD b lev Q p f t)
    (fun s => ∃ (lev : Nat → Int) (Q : List Nat) (p i : Nat), s = (tab n lev, toI Q, (p : Int), (i : Int)) ∧ Bfs b n N v lev Q p ∧ i ≤ Q.length ∧ ∀ j, j < i → ∀ t ∈ N, BfD b lev Q p (pf Q j) t) (fun s => n + 1 - s.2.2.2.toNat) (tab n lev0, toI [v], 0, 0) ⟨lev0, [v], 0, 0, rfl, B0, by simp, fun j hj => by omega⟩ (fun s hI => ?_)
  · unfold impl_periodOf
    rw [bl]
    have e1 : tab n (fun u => if u < n then (-1 : Int) else 0) = tab n fun _ => -1 := tab_congr fun i hi => if_pos hi
    have hset : M.Conv (M.forI 0 (n : Int) (fun s => s) (fun i1 => (fun (s1 : (List Int)) => M.bind (M.idx s1 i1) (fun x2 => M.bind (M.upd s1 i1 (-1)) (fun l2 => M.ret (.inl l2))))) (tab n fun _ => (0 : Int))) (tab n fun _ => -1) := by
      have e0 : (tab n fun _ => (0 : Int)) = tab n fun u => if u < 0 then (-1 : Int) else 0 := tab_congr fun i _ => by simp
      rw [e0, ← e1]
      refine Conv_forV (fun k => tab n fun u => if u < k then (-1 : Int) else 0) (by omega) fun i hi => ?_
      refine M.Conv_bind (idx_tab hi) (M.Conv_bind (M.Conv_upd (by rw [tab_len]; exact hi)) ((M.Conv_ret _).of (congrArg Sum.inl ?_)))
      exact tab_set (by simp) fun p _ hp => by
        have : (p < i) ↔ (p < i + 1) := by omega
        simp only [this]
    obtain ⟨y, cy, lev, Q, p, y1, H, hall⟩ := hloop
    refine ⟨p, ?_, fun d => ⟨fun hd => ?_, fun hd => H.up d hd⟩⟩
    · have hlv : (tab n fun _ => (-1 : Int)).set v 0 = tab n lev0 := tab_set (by simp [lev0]) fun q _ hq => by simp [lev0, hq]
      refine M.Conv_bind (x := tab n fun _ => (0 : Int)) ((M.Conv_make (by omega) (by omega)).of (by rw [Int.toNat_natCast, tab_rep])) ?_
      rw [tab_len]
      refine M.Conv_bind hset (M.Conv_bind h0 (M.Conv_bind (idx_tab hv) (M.Conv_bind (x := tab n lev0) ((M.Conv_upd (by rw [tab_len]; exact hv)).of hlv) (M.Conv_bind h0 (M.Conv_bind cy ((M.Conv_ret _).of y1))))))
    · -- the period divides the length of every closed walk
      have inQ : ∀ {k i : Nat}, RK (arcE b) n v k i → Rch (arcE b) n i v → i ∈ Q := fun {k i} hk => by
        induction hk with
        | nil k => intro _; exact H.root.1
        | step k j i hj hjn hin he ih =>
          intro hb
          have hjv : Rch (arcE b) n j v := ((Rch.refl _ _ _).step hjn hin he).trans hb
          exact (hall j (ih hjv) i ((hNm i).2 ⟨hin, Rch.step ⟨k, hj⟩ hjn hin he, hb⟩) he).1
      intro k w hw
      have walk : ∀ {k i : Nat} {w : Int}, Wlk b n v k i w → Rch (arcE b) n i v → (p : Int) ∣ lev v + (k : Int) - lev i := fun {k i w} hw => by
        induction hw with
        | nil _ => intro _; simp
        | step k i i' w hw hi ha ih =>
          intro hb
          have hiv : Rch (arcE b) n i v := ((Rch.refl _ _ _).step hw.lt.2 hi ha).trans hb
          obtain ⟨k1, hk1⟩ := hw.rch
          have hiQ := inQ hk1 hiv
          have d1 := ih hiv
          have d2 := (hall i hiQ i' ((hNm i').2 ⟨hi, (Wlk.step k i i' w hw hi ha).rch, hb⟩) ha).2
          have := Int.dvd_add d1 d2
          rw [show lev v + (k : Int) - lev i + (lev i + 1 - lev i') = lev v + ((k + 1 : Nat) : Int) - lev i' by omega] at this
          exact this
      have := walk hw (.refl _ _ _)
      rw [show lev v + (k : Int) - lev v = (k : Int) by omega] at this
      exact Nat.dvd_trans hd (Int.natCast_dvd_natCast.1 this)
  · obtain ⟨lev, Q, p, i, rfl, H, hi, hall⟩ := hI
    have hlen := H.len fun u hu => (hN' u hu).1
    have hql : (toI Q).length = Q.length := by simp
    refine M.TC_ite (fun t => ?_) (fun t => M.TC_ret (.inr ⟨_, rfl, lev, Q, p, rfl, H, fun f hf t' ht' => ?_⟩))
    · have t := of_decide_eq_true t
      simp only [hql] at t
      have hiQ : i < Q.length := by omega
      have hfQ := pf_mem hiQ
      refine M.TC_bindC (toI_read hiQ) (M.TC_bind (Mid := fun (y : List Int × List Int × Int) => ∃ (lev' : Nat → Int) (Q' : List Nat) (p' : Nat), y = (tab n lev', toI Q', (p' : Int)) ∧ Bfs b n N v lev' Q' p' ∧ BfE lev Q p lev' Q' p' ∧ ∀ t ∈ N, BfD b lev' Q' p' (pf Q i) t) ?_ fun y hy => ?_)
      · have hl : (toI N).length = N.length := by simp
        rw [hl]
        have := M.TC_forN (n := N.length) (f := fun i2 => (fun (s3 : (List Int) × (List Int) × Int) => M.bind (M.idx (toI N) i2) (fun x9 => M.bind (M.idx b x9) (fun x10 => M.bind (M.idx x10 (pf Q i : Int)) (fun x11 => M.bind (M.ite (x11 == (-1000000000000000)) (M.ret (s3.1, s3.2.1, s3.2.2)) (M.bind (M.idx s3.1 x9) (fun x12 => M.ite (decide (x12 < 0)) (M.bind (M.idx s3.1 (pf Q i : Int)) (fun x13 => M.bind (M.idx s3.1 x9) (fun x14 => M.bind (M.upd s3.1 x9 (w64 (x13 + 1))) (fun l4 => M.bind (M.app s3.2.1 ([x9] : List Int)) (fun l5 => M.ret (l4, l5, s3.2.2)))))) (M.bind (M.idx s3.1 (pf Q i : Int)) (fun x15 => M.bind (M.idx s3.1 x9) (fun x16 => M.bind (impl_absOf (w64 ((w64 (x15 + 1)) - x16))) (fun x17 => M.bind (impl_divisorOf x17 s3.2.2) (fun x18 => M.ret (s3.1, s3.2.1, x18))))))))) (fun (s4 : (List Int) × (List Int) × Int) => M.ret (.inl (s4.1, s4.2.1, s4.2.2))))))))
          (s := (tab n lev, toI Q, (p : Int))) (fun m y => ∃ (lev' : Nat → Int) (Q' : List Nat) (p' : Nat), y = (tab n lev', toI Q', (p' : Int)) ∧ Bfs b n N v lev' Q' p' ∧ BfE lev Q p lev' Q' p' ∧ ∀ t ∈ N.take m, BfD b lev' Q' p' (pf Q i) t) (by omega) ⟨lev, Q, p, rfl, H, .refl _ _ _, by simp⟩ (fun m y hm hI => ?_)
        · rw [List.take_length] at this; exact this
        · obtain ⟨l1, Q1, p1, rfl, H1, E1, D1⟩ := hI
          obtain ⟨l2, Q2, p2, H2, E2, D2, c⟩ := H1.step hs bl hN' (E1.pre.subset hfQ) (pf_mem hm)
          refine M.TC_bindC (toI_read hm) (M.TC.mono (M.Conv.tc c (Post := fun y => y = Sum.inl (tab n l2, toI Q2, (p2 : Int))) rfl) fun y hy => ⟨_, hy, l2, Q2, p2, rfl, H2, E1.trans E2, fun t ht => ?_⟩)
          have et : N.take (m + 1) = N.take m ++ [pf N m] := by rw [List.take_add_one]; simp [pf, hm]
          rw [et, List.mem_append, List.mem_singleton] at ht
          rcases ht with ht | rfl
          · exact (D1 t ht).keep (E1.pre.subset hfQ) E2
          · exact D2
      · obtain ⟨l2, Q2, p2, rfl, H2, E2, D2⟩ := hy
        have hw : w64 ((i : Int) + 1) = ((i + 1 : Nat) : Int) := by rw [w64_eq _ (by omega)]; omega
        have hl2 := E2.pre.length_le
        have hpf : ∀ j, j < Q.length → pf Q2 j = pf Q j := fun j hj => by
          obtain ⟨z, hz⟩ := E2.pre
          unfold pf
          rw [← hz, List.getElem?_append_left hj]
        refine M.TC_ret (.inl ⟨_, rfl, ⟨l2, Q2, p2, i + 1, by simp only [hw], H2, by omega, fun j hj t2 ht2 => ?_⟩, ?_⟩)
        · rw [hpf j (by omega)]
          by_cases e : j = i
          · subst e; exact D2 t2 ht2
          · exact (hall j (by omega) t2 ht2).keep (pf_mem (by omega)) E2
        · simp only [hw]
          omega
    · have t := of_decide_eq_false t
      simp only [hql] at t
      obtain ⟨j, hj, rfl⟩ := List.getElem_of_mem hf
      have := hall j (by omega) t' ht'
      rw [show pf Q j = Q[j] by simp [pf, hj]] at this
      exact this

theorem critical_not {a : List (List Int)} (sa : smII a) (h : sqB a = false) : M.Conv (impl_criticalOf a) ([], 1) ∧ M.Conv (spec_l06Code a) 1 := by
  constructor
  · exact M.Conv_bind (impl_isSquare_ok sa) (M.Conv_ite (fun _ => M.Conv_ret _) (fun t => by rw [h] at t; cases t))
  · unfold spec_l06Code
    exact M.Conv_bind (spec_l02Square_ok sa) (M.Conv_ite (fun _ => M.Conv_ret _) (fun t => by rw [h] at t; cases t))
theorem node_both (a : List (List Int)) (h : 1 ≤ a.length ∧ a.length ≤ 10) (v : Int) : M.Conv (spec_l03Node a v) (decide (0 ≤ v) && decide (v ≤ (a.length : Int) - 1)) ∧ M.Conv (impl_isNode a v) (decide (0 ≤ v) && decide (v ≤ (a.length : Int) - 1)) := by
  have e : w64 ((a.length : Int) - 1) = (a.length : Int) - 1 := w64_eq _ (by omega)
  constructor
  · unfold spec_l03Node
    rw [e]
    exact M.Conv_bind (spec_l01In_ok _ _ _) (M.Conv_ret _)
  · unfold impl_isNode
    rw [e]
    exact M.Conv_bind (impl_within_ok _ _ _) (M.Conv_ret _)
theorem scan_both {ρ : Type} {n : Nat} (hn : n ≤ 9223372036854775807) {f g : Int → Unit → M (Unit ⊕ (Unit ⊕ ρ))} (h : ∀ k : Nat, k < n → ∃ y, M.Conv (f k ()) y ∧ M.Conv (g k ()) y ∧ (y = .inl () ∨ ∃ r, y = .inr (.inr r))) :
    ∃ y, M.Conv (M.forI 0 (n : Int) (fun s => .inl s) f ()) y ∧ M.Conv (M.forI 0 (n : Int) (fun s => .inl s) g ()) y := by
  obtain ⟨Y, hY⟩ : ∃ Y : Nat → (Unit ⊕ (Unit ⊕ ρ)), ∀ k, k < n → M.Conv (f k ()) (Y k) ∧ M.Conv (g k ()) (Y k) ∧ (Y k = .inl () ∨ ∃ r, Y k = .inr (.inr r)) := by
    have : ∀ k : Nat, ∃ y : Unit ⊕ (Unit ⊕ ρ), k < n → M.Conv (f k ()) y ∧ M.Conv (g k ()) y ∧ (y = .inl () ∨ ∃ r, y = .inr (.inr r)) := fun k => ?_
    · exact Classical.skolem.1 this
    by_cases hk : k < n
    · obtain ⟨y, hy⟩ := h k hk
      exact ⟨y, fun _ => hy⟩
    · exact ⟨.inl (), fun hk' => absurd hk' hk⟩
  have run : ∀ F : Int → Unit → M (Unit ⊕ (Unit ⊕ ρ)), (∀ k, k < n → M.Conv (F k ()) (Y k)) → M.TC (M.forI 0 (n : Int) (fun s => .inl s) F ()) (fun y => (y = .inl () ∧ ∀ j, j < n → Y j = .inl ()) ∨ ∃ r k, y = .inr r ∧ k < n ∧ Y k = .inr (.inr r) ∧ ∀ j, j < k → Y j = .inl ()) := fun F hF => by
    refine (M.TC_forE (fun i (_ : Unit) => ∀ j, j < i → Y j = .inl ()) (fun r => ∃ k, k < n ∧ Y k = .inr (.inr r) ∧ ∀ j, j < k → Y j = .inl ()) hn (by intro j hj; omega) (fun i s hi hI => ?_)).mono fun y hy => ?_
    · refine (hF i hi).tc ?_
      rcases (hY i hi).2.2 with e | ⟨r, e⟩
      · refine .inl ⟨(), e, fun j hj => ?_⟩
        by_cases e2 : j = i
        · rw [e2, e]
        · exact hI j (by omega)
      · exact .inr ⟨r, e, i, hi, e, hI⟩
    · rcases hy with ⟨s, rfl, h⟩ | ⟨r, rfl, k, h⟩
      · exact .inl ⟨rfl, h⟩
      · exact .inr ⟨r, k, rfl, h⟩
  obtain ⟨y1, c1, p1⟩ := run f fun k hk => (hY k hk).1
  obtain ⟨y2, c2, p2⟩ := run g fun k hk => (hY k hk).2.1
  have e : y1 = y2 := by
    rcases p1 with ⟨rfl, h1⟩ | ⟨r1, k1, rfl, a1, a2, a3⟩
    · rcases p2 with ⟨rfl, _⟩ | ⟨r2, k2, rfl, b1, b2, b3⟩
      · rfl
      · rw [h1 k2 b1] at b2; cases b2
    · rcases p2 with ⟨rfl, h2⟩ | ⟨r2, k2, rfl, b1, b2, b3⟩
      · rw [h2 k1 a1] at a2; cases a2
      · have : k1 = k2 := by
          rcases Nat.lt_trichotomy k1 k2 with h | h | h
          · rw [b3 k1 h] at a2; cases a2
          · exact h
          · rw [a3 k2 h] at b2; cases b2
        subst this
        rw [a2] at b2
        cases b2
        rfl
  exact ⟨y1, c1, e ▸ c2⟩
theorem keepF_mem {rr : Nat → Nat → Bool} {c : Nat → Nat → Bool} {n : Nat} {x : List Int} (h : x ∈ keepF rr c n) : ∃ v, v < n ∧ x = compF rr n v ∧ x.head? = some (v : Int) ∧ ∃ i, i < n ∧ c v i = true := by
  unfold keepF at h
  obtain ⟨v, hv, rfl⟩ := List.mem_map.1 h
  rw [List.mem_filter, List.mem_range, Bool.and_eq_true, List.any_eq_true] at hv
  obtain ⟨h1, h2, i, hi, hc⟩ := hv
  exact ⟨v, h1, rfl, eq_of_beq h2, i, List.mem_range.1 hi, hc⟩
theorem keepF_len {rr : Nat → Nat → Bool} {c : Nat → Nat → Bool} {n : Nat} : (keepF rr c n).length ≤ n := by
  unfold keepF
  rw [List.length_map]
  exact Nat.le_trans (List.length_filter_le _ _) (by simp)
theorem period_both {a b : List (List Int)} {n : Nat} (hb : M.Conv (spec_l06Matrix a) b) (hs : Shp b n) (bl : b.length = n) {rr : Nat → Nat → Bool} (hr : ∀ v i, v < n → i < n → (rr v i = true ↔ Rch (arcE b) n v i)) {v : Nat} (hv : v < n) (hh : (compF rr n v).head? = some (v : Int)) :
    ∃ q : Nat, M.Conv (spec_l06Period a (compF rr n v)) (q : Int) ∧ M.Conv (impl_periodOf b (compF rr n v)) (q : Int) ∧ ∀ d : Nat, d ∣ q ↔ DivC b n v d := by
  obtain ⟨q1, c1, d1⟩ := l06Period_ok hb hs bl hr hv
  obtain ⟨q2, c2, d2⟩ := periodOf_ok hs bl hr hv hh
  have e : q1 = q2 := Nat.dvd_antisymm ((d2 _).2 ((d1 _).1 (Nat.dvd_refl _))) ((d1 _).2 ((d2 _).1 (Nat.dvd_refl _)))
  exact ⟨q1, c1, e ▸ c2, d1⟩
theorem same_PeriodAt (a : List (List Int)) (_ : fitL (fitL inI64) a) (node : Int) (_ : inI64 node) (sa : smII a) : Two (spec_PeriodAt a node) (impl_PeriodAt a node) (fun _ => True) := by
  unfold spec_PeriodAt impl_PeriodAt
  cases hq : sqB a with
  | false =>
    obtain ⟨k1, k2⟩ := critical_not sa hq
    exact ⟨(0, 1), M.Conv_bind k2 (M.Conv_ite (fun _ => M.Conv_ret _) (fun t => by cases t)), M.Conv_bind k1 (M.Conv_ite (fun _ => M.Conv_ret _) (fun t => by cases t)), trivial⟩
  | true =>
    have hm := sq_mat hq
    have hrows := hm.rows
    obtain ⟨w, c1, h⟩ := critical_both sa hq
    rcases h with ⟨hw, _, c2⟩ | ⟨hw, c2, c3, l, W, r, S, hC, ew, c4⟩
    · exact ⟨(0, 4), M.Conv_bind c2 (M.Conv_ite (fun _ => M.Conv_ret _) (fun t => by cases t)), M.Conv_bind c1 (M.Conv_ite (fun _ => (M.Conv_ret _).of (by rw [hw])) (fun t => by rw [hw] at t; cases t)), trivial⟩
    · obtain ⟨n1, n2⟩ := node_both a hrows node
      rw [ew] at c3
      obtain ⟨rr, k1, k2, k3⟩ := lcomps_both hm hC c3 c4
      have hsC : Shp (matF a.length a.length (critF (matF a.length a.length (shF a r.Den r.Num)) S a)) a.length := shp_of (by omega) (by omega)
      have hlC := matF_len a.length a.length (critF (matF a.length a.length (shF a r.Den r.Num)) S a)
      have hmem := fun {x : List Int} => keepF_mem (rr := rr) (c := critB (matF a.length a.length (shF a r.Den r.Num)) S) (n := a.length) (x := x)
      have hkl := keepF_len (rr := rr) (c := critB (matF a.length a.length (shF a r.Den r.Num)) S) (n := a.length)
      generalize critB (matF a.length a.length (shF a r.Den r.Num)) S = c at *
      generalize matF a.length a.length (critF (matF a.length a.length (shF a r.Den r.Num)) S a) = C at *
      cases hnode : decide (0 ≤ node) && decide (node ≤ (a.length : Int) - 1) with
      | false =>
        rw [hnode] at n1 n2
        exact ⟨(0, 2), M.Conv_bind c2 (M.Conv_ite (fun t => by cases t) (fun _ => M.Conv_bind n1 (M.Conv_ite (fun _ => M.Conv_ret _) (fun t => by cases t)))), M.Conv_bind c1 (M.Conv_ite (fun t => by rw [hw] at t; cases t) (fun _ => M.Conv_bind n2 (M.Conv_ite (fun _ => M.Conv_ret _) (fun t => by cases t)))), trivial⟩
      | true =>
        rw [hnode] at n1 n2
        have scan := scan_both (ρ := Int × Int) (n := (keepF rr c a.length).length) (by omega)
          (f := fun i1 => (fun (_ : Unit) => M.bind (M.idx (keepF rr c a.length) i1) (fun x5 => M.bind (spec_l01Has x5 node) (fun x6 => M.ite x6 (M.bind (M.idx (keepF rr c a.length) i1) (fun x7 => M.bind (spec_l06Period a x7) (fun x8 => M.ret (.inr (.inr (x8, 0)))))) (M.ret (.inl ()))))))
          (g := fun i1 => (fun (_ : Unit) => M.bind (M.idx (keepF rr c a.length) i1) (fun x5 => M.bind (slices_Contains_int x5 node) (fun x6 => M.ite x6 (M.bind (impl_periodOf w.1 x5) (fun x7 => M.ret (.inr (.inr (x7, 0))))) (M.ret (.inl ())))))) fun k hk => ?_
        · obtain ⟨y, y1, y2⟩ := scan
          refine ⟨match y with | .inl _ => (0, 5) | .inr r => r, M.Conv_bind c2 (M.Conv_ite (fun t => by cases t) (fun _ => M.Conv_bind n1 (M.Conv_ite (fun t => by cases t) (fun _ => M.Conv_bind k3 (M.Conv_bind y1 ?_))))), M.Conv_bind c1 (M.Conv_ite (fun t => by rw [hw] at t; cases t) (fun _ => M.Conv_bind n2 (M.Conv_ite (fun t => by cases t) (fun _ => M.Conv_bind (by rw [ew]; exact k2) (M.Conv_bind y2 ?_))))), trivial⟩
          · cases y <;> exact M.Conv_ret _
          · cases y <;> exact M.Conv_ret _
        · have hx := List.getElem?_eq_getElem hk
          obtain ⟨v, hv, ex, hh, _⟩ := hmem (List.getElem_mem hk)
          generalize (keepF rr c a.length)[k] = x at *
          have hxl : x.length ≤ 10 := by rw [ex]; have := compF_len (r := rr) (n := a.length) (v := v); omega
          obtain ⟨q, q1, q2, _⟩ := period_both c3 hsC hlC k1 hv (by rw [← ex]; exact hh)
          rw [← ex] at q1 q2
          have m1 := l01Has_ok (l := x) node (by omega)
          have m2 := contains_neg (l := x) (by omega) node
          have em : (x.any fun y => node == y) = x.any fun y => y == node := by congr 1; funext y; rw [Bool.eq_iff_iff]; simp; exact eq_comm
          rw [em] at m2
          cases hany : x.any fun y => y == node with
          | true =>
            rw [hany] at m1 m2
            exact ⟨.inr (.inr ((q : Int), 0)), M.Conv_bind (M.Conv_idx hx) (M.Conv_bind m1 (M.Conv_ite (fun _ => M.Conv_bind (M.Conv_idx hx) (M.Conv_bind q1 (M.Conv_ret _))) (fun t => by cases t))), M.Conv_bind (M.Conv_idx hx) (M.Conv_bind m2 (M.Conv_ite (fun _ => M.Conv_bind (by rw [ew]; exact q2) (M.Conv_ret _)) (fun t => by cases t))), .inr ⟨_, rfl⟩⟩
          | false =>
            rw [hany] at m1 m2
            exact ⟨.inl (), M.Conv_bind (M.Conv_idx hx) (M.Conv_bind m1 (M.Conv_ite (fun t => by cases t) (fun _ => M.Conv_ret _))), M.Conv_bind (M.Conv_idx hx) (M.Conv_bind m2 (M.Conv_ite (fun t => by cases t) (fun _ => M.Conv_ret _))), .inl rfl⟩
theorem FnExactPeriodAt_ok (aA : List (List Int)) (gaA : fitL (fitL inI64) aA) (aNode : Int) (gaNode : inI64 aNode) : M.Conv (laws_FnExactPeriodAt aA aNode) true := by
  unfold laws_FnExactPeriodAt
  obtain ⟨zaA, hzaA, ssaA⟩ := szII_ok gaA
  refine M.Conv_bind hzaA ?_
  refine M.Conv_ite (fun _ => M.Conv_ret _) (fun qaA => ?_)
  have saA := ssaA qaA
  have nzaA := of_decide_eq_false qaA
  refine M.Conv_bind (toII_ok saA) ?_
  obtain ⟨w, hS, hI, hw⟩ := same_PeriodAt aA gaA aNode gaNode saA
  refine M.Conv_bind hS ?_
  refine M.Conv_bind (toII_ok saA) ?_
  refine M.Conv_bind hI ?_
  refine M.Conv_ite (fun q => ?_) (fun _ => ?_)
  · exfalso; revert q; simp
  refine M.Conv_bind (toII_ok saA) ?_
  refine M.Conv_bind (eqII_refl saA) ?_
  refine M.Conv_ite (fun q => ?_) (fun _ => ?_)
  · exfalso; revert q; simp
  exact M.Conv_ret _

end Go.Proofs.Ytelopfgolahlpaa
