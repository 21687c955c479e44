/-
  Plain proofs: the plain program of the law ends with true.
  Conditions: None beyond the given statement.
-/
import Derived.Test.YtjdcdcipilhmeaaB
namespace Go.Proofs.Ytjdcdcipilhmeaa
open Go
theorem orbit_good {a : List (List Int)} {x : List Int} (sa : smII a) (sx : smI x) (h : codeX a x = 0) {n : Nat} (hn : n ≤ 100) (ok : okTo a (colX x) n) : M.Conv (impl_OrbitOf a x (n : Int)) (tab (n + 1) (fl a (colX x)), 0) := by
  obtain ⟨c1, c2⟩ := code_ok sa sx
  rw [h] at c2
  obtain ⟨h1, h2, h3⟩ := codeX_zero h
  have hs := ser_vec h1 h2 h3
  have e : (decide (0 ≤ (n : Int)) && decide ((n : Int) ≤ 100)) = true := by simp; omega
  unfold impl_OrbitOf
  have hmax : max 1 (n + 1) = n + 1 := by omega
  have g2 := grow_good hs (m := 1) (by omega) (by omega) (by omega) ok
  rw [hmax] at g2
  refine M.Conv_bind c2 (M.Conv_ite (fun t => by cases t) (fun _ => M.Conv_bind (impl_within_ok _ _ _) (M.Conv_ite (fun t => by rw [e] at t; cases t) (fun _ => M.Conv_bind (vec_ok h2) (M.Conv_bind g2 (M.Conv_ite (fun t => by cases t) (fun _ => ?_)))))))
  have ew : w64 ((n : Int) + 1) = ((n + 1 : Nat) : Int) := by rw [w64_eq _ (by omega)]; omega
  rw [ew]
  refine M.Conv_bind (x := tab (n + 1) (pw a (colX x))) ((M.Conv_sub (by omega) (by omega) (by simp [oS, tab_len])).of ?_) ?_
  · simp only [oS, Int.toNat_natCast, Int.toNat_zero, List.drop_zero, Nat.sub_zero]
    exact List.take_of_length_le (by rw [tab_len]; omega)
  · refine M.Conv_bind (x := tab (n + 1) (fl a (colX x))) ?_ (M.Conv_ret _)
    rw [show (((((n + 1 : Nat) : Int)).toNat - (0 : Int).toNat : Nat) : Int) = ((n + 1 : Nat) : Int) by simp]
    refine Conv_forV (fun i => tab i (fl a (colX x))) (by omega) fun i hi => ?_
    exact M.Conv_bind (idx_tab hi) (M.Conv_bind (col_flat (hs.shp i).1) (M.Conv_bind (M.Conv_get (x := fl a (colX x) i) (by omega) rfl) (M.Conv_bind (M.Conv_app (by simp [tab_len]; omega)) ((M.Conv_ret _).of (congrArg Sum.inl (tab_snoc i _))))))
theorem shift_good {x y : List Int} {g : Int} (h1 : 1 ≤ x.length ∧ x.length ≤ 10) (hx : x.all valB = true) (hy : y.all valB = true) (hg : -1000000 ≤ g ∧ g ≤ 1000000) (e : x.map (timesI · g) = y) : M.Conv (impl_ShiftVector x g) (y, 0) := by
  have hv : vecB x = true := by
    unfold vecB
    rw [decide_eq_true h1.1, decide_eq_true h1.2, hx]; rfl
  have hl : (x.map (timesI · g)).length = x.length := List.length_map _
  unfold impl_ShiftVector
  refine M.Conv_bind (impl_isVector_ok (by omega)) (M.Conv_ite (fun t => by rw [hv] at t; cases t) (fun _ => M.Conv_bind (impl_isFinite_ok _) (M.Conv_ite (fun t => ?_) (fun _ => M.Conv_bind (impl_shiftedVector_ok g (by omega)) (M.Conv_bind (impl_checkedVector_ok (by omega)) ?_)))))
  · simp [finB, hg.1, hg.2] at t
  · rw [e, hy]; exact M.Conv_ret _
theorem rate_tc {a : List (List Int)} {x : List Int} (sa : smII a) (sx : smI x) (h : codeX a x = 0) {r' : TRepeat × Int × TOrbit} (k2 : M.Conv (impl_orbit_firstRepeat_B (oS a (colX x) 1)) r') (h0 : r'.2.1 = 0) (hg : -2000000 ≤ r'.1.growth ∧ r'.1.growth ≤ 2000000) (hp : 1 ≤ r'.1.period ∧ r'.1.period ≤ 100) :
    M.TC (impl_OrbitRate a x) (fun w => w.2 ≠ 0 ∨ (RatP r'.1.growth r'.1.period w.1)) := by
  obtain ⟨c1, c2⟩ := code_ok sa sx
  rw [h] at c2
  obtain ⟨h1, h2, h3⟩ := codeX_zero h
  unfold impl_OrbitRate
  obtain ⟨r, _, r2, r3⟩ := ratio_ok (x := r'.1.growth) (d := r'.1.period) (by omega) (by omega)
  refine M.TC_bindC c2 (M.TC_ite (fun t => by cases t) (fun _ => M.TC_bindC (vec_ok h2) (M.TC_bindC k2 (M.TC_ite (fun t => by rw [h0] at t; cases t) (fun _ => M.TC_bindC r2 ?_)))))
  obtain ⟨b, _, b2, _⟩ := isRatio_same r
  refine M.TC_bind (Mid := fun w => w.2 ≠ 0 ∨ w.1 = r) (M.TC_bindC b2 (M.TC_ite (fun _ => M.TC_ret (.inl (by decide))) (fun _ => M.TC_ret (.inr rfl)))) fun w hw => M.TC_ret ?_
  rcases hw with hw | hw
  · exact .inl hw
  · right; rw [hw]; exact r3
theorem FnOrbitRates_ok (code : List Int) (h : fitL inU8 code) : M.Conv (laws_FnOrbitRates code) true := by
  apply M.TC.conv
  unfold laws_FnOrbitRates
  refine M.TC_bindC (big_ok code) (M.TC_ite (fun _ => M.TC_ret rfl) (fun hb => ?_))
  have hbc := ByC.of h hb
  refine M.TC_bind (DrawOrbitRepeats_sm hbc) fun d hd => ?_
  obtain ⟨a, x⟩ := d
  obtain ⟨⟨ha, hx⟩, hsm, hsv⟩ := hd
  simp only at ha hx hsm hsv ⊢
  obtain ⟨w, w1, w2, _⟩ := same_OrbitRepeats a ha.fit x hx.fit ha.sm hx.sm
  obtain ⟨v, v1, v2, _⟩ := same_OrbitRate a ha.fit x hx.fit ha.sm hx.sm
  refine M.TC_bindC w2 (M.TC_bindC w1 (M.TC_bindC v2 (M.TC_bindC v1 (M.TC_ite (fun t => by simp at t) (fun _ => M.TC_ite (fun _ => M.TC_ret rfl) (fun t => ?_))))))
  obtain ⟨c1, c2⟩ := code_ok ha.sm hx.sm
  by_cases hc : codeX a x = 0
  · obtain ⟨h1, h2, h3⟩ := codeX_zero hc
    have hs := ser_vec h1 h2 h3
    have hrows := hs.mat.rows
    obtain ⟨r, r', k1, k2, q1, q2, q3, q4, q5⟩ := find_rel hs
    have hI : M.Conv (impl_OrbitRepeats a x) (r'.1.at_, r'.1.period, r'.1.growth, r'.2.1) := by
      unfold impl_OrbitRepeats
      exact M.Conv_bind c2 (M.Conv_ite (fun t => by rw [hc] at t; cases t) (fun _ => M.Conv_bind (vec_ok h2) (M.Conv_bind k2 (M.Conv_ret _))))
    have ew := M.Conv.unique w2 hI
    rw [ew] at t ⊢
    simp only at t ⊢
    have h0 : r'.2.1 = 0 := by simpa using t
    obtain ⟨k, c, m, e1, e2, e3, e4, e5, e6, ok, e7, hsh, _, _, hmin, hz⟩ := q5 h0
    have okk : okTo a (colX x) (k + c) := ok.mono (by omega)
    have hg := growth_small hs h3 hsm (hsv h3) e3 e4 okk hsh hmin hz
    obtain ⟨v', v3, v4⟩ := rate_tc ha.sm hx.sm hc k2 h0 e7 (by omega)
    have := M.Conv.unique v2 v3
    subst this
    have horb := orbit_good ha.sm hx.sm hc e4 okk
    have ek : w64 (r'.1.at_ + r'.1.period) = ((k + c : Nat) : Int) := by rw [e1, e2, w64_eq _ (by omega)]; omega
    obtain ⟨f1, f2⟩ := fl_val hs (okk k (by omega))
    obtain ⟨f3, f4⟩ := fl_val hs (okk (k + c) (by omega))
    have hfl : (fl a (colX x) k).map (timesI · r'.1.growth) = fl a (colX x) (k + c) := by
      have := (shift_iff (hs.pm okk (i := k) (by omega)) (hs.pm okk (i := k + c) (by omega)) (by rw [(hs.shp k).2, (hs.shp (k + c)).2]) (g := r'.1.growth) (by omega)).2 (by rw [(hs.shp k).2]; exact hsh)
      exact this
    have hshift := shift_good (by rw [f2]; exact hrows) f1 f3 hg hfl
    rw [ek]
    refine M.TC_bindC horb (M.TC_ite (fun t => by cases t) (fun _ => ?_))
    refine M.TC_bindC (x := fl a (colX x) k) (by rw [e1]; exact idx_tab (by omega)) (M.TC_bindC hshift (M.TC_bindC (x := true) (M.Conv_ite (fun _ => M.Conv_bind (idx_tab (by omega)) (M.Conv_bind (likeInts_refl (by simp only; omega)) (M.Conv_ret _))) (fun t => by cases t)) (M.TC_ret ?_)))
    rw [Bool.true_and, Bool.or_eq_true]
    rcases v4 with q | q
    · left; simpa using q
    · right
      obtain ⟨gg, g0, g1, g2⟩ := q.mul
      have : v.1.Num * r'.1.period = r'.1.growth * v.1.Den := by rw [g1, g2]; grind
      rw [this]; simp
  · have hI : M.Conv (impl_OrbitRepeats a x) (0, 0, 0, codeX a x) := by
      unfold impl_OrbitRepeats
      exact M.Conv_bind c2 (M.Conv_ite (fun _ => M.Conv_ret _) (fun t => absurd (by simpa using t) hc))
    have ew := M.Conv.unique w2 hI
    rw [ew] at t
    exact absurd (by simpa using t) hc

end Go.Proofs.Ytjdcdcipilhmeaa
