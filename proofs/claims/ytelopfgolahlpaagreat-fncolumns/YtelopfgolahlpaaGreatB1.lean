/-
  Plain proofs: the plain program of the law ends with true.
  Conditions: None beyond the given statement.
-/
import Derived.Test.YtelopfgolahlpaaGreatB
namespace Go.Proofs.YtelopfgolahlpaaGreat
open Go
theorem criticalOf_ok {a : List (List Int)} (hm : Mat a a.length) {l : List Nat} {W : Int} {r : TRatio} {S : List (List Int)} (h : CritP a l W r S) : M.Conv (impl_criticalMatrix a r) (matF a.length a.length (critF (matF a.length a.length (shF a r.Den r.Num)) S a)) := by
  have hrows := hm.rows
  have hs := hm.shp
  have hbs : Shp (matF a.length a.length (shF a r.Den r.Num)) a.length := shp_of (by omega) (by omega)
  obtain ⟨S', s1, s2⟩ := starOf_ok hbs (matF_len _ _ _) h.sh.bd (by omega) (by omega) h.np
  have := s2.unique h.st
  subst this
  unfold impl_criticalMatrix
  refine M.Conv_bind (shiftedI_ok hs rfl h.sh) (M.Conv_bind s1 (M.Conv_bind ?_ (M.Conv_ret _)))
  refine matrixBy_ok (fun i j => impl_criticalMatrix_1 i j (matF a.length a.length (shF a r.Den r.Num)) S' a) _ (by omega) (by omega) fun i j hi hj => ?_
  obtain ⟨e1, e2⟩ := h.ent hm hi hj
  have hci := critB_iff e1 e2
  have rdA : M.Conv (M.idx a (i : Int)) (rowN a i) ∧ M.Conv (M.idx (rowN a i) (j : Int)) (entA a i j) := by
    have hrl := hs.row _ (List.mem_of_getElem? (rowN_get (a := a) (i := i) (by omega)))
    have g2 := nd_read (l := rowN a i) (i := j) (by omega)
    rw [nd_row (by omega)] at g2
    exact ⟨get_row (rowN_get (by omega)), g2⟩
  have rdS : M.Conv (M.idx S' (j : Int)) (rowN S' j) ∧ M.Conv (M.idx (rowN S' j) (i : Int)) (entA S' j i) := by
    have hjS : j < S'.length := by rw [s2.len]; exact hj
    have hrl := s2.shp.row _ (List.mem_of_getElem? (rowN_get hjS))
    have g2 := nd_read (l := rowN S' j) (i := i) (by omega)
    rw [nd_row hjS] at g2
    exact ⟨get_row (rowN_get hjS), g2⟩
  generalize hb : matF a.length a.length (shF a r.Den r.Num) = b at *
  have hbl : b.length = a.length := by rw [← hb]; exact matF_len _ _ _
  have rdB : M.Conv (M.idx b (i : Int)) (rowN b i) ∧ M.Conv (M.idx (rowN b i) (j : Int)) (entA b i j) := by
    have hrl := hbs.row _ (List.mem_of_getElem? (rowN_get (a := b) (i := i) (by omega)))
    have g2 := nd_read (l := rowN b i) (i := j) (by omega)
    rw [nd_row (by omega)] at g2
    exact ⟨get_row (rowN_get (by omega)), g2⟩
  refine M.Conv_bind rdB.1 (M.Conv_bind rdB.2 (M.Conv_bind (Conv_or (v := entA S' j i == (-1000000000000000)) fun _ => M.Conv_bind rdS.1 (M.Conv_bind rdS.2 (M.Conv_ret _))) (M.Conv_bind (Conv_or (v := w64 (entA b i j + entA S' j i) != 0) fun _ => M.Conv_bind rdB.1 (M.Conv_bind rdB.2 (M.Conv_bind rdS.1 (M.Conv_bind rdS.2 (M.Conv_ret _))))) ?_)))
  refine M.Conv_ite (fun t => (M.Conv_ret _).of ?_) (fun t => M.Conv_bind rdA.1 (M.Conv_bind rdA.2 ((M.Conv_ret _).of ?_)))
  · have : critB b S' j i = false := by
      cases hc : critB b S' j i with
      | false => rfl
      | true =>
        obtain ⟨q1, q2, q3⟩ := hci.1 hc
        rw [q3] at t
        simp [q1, q2, w64_eq] at t
    unfold critF; rw [this]; rfl
  · simp only [Bool.or_eq_false_iff, beq_eq_false_iff_ne, ne_eq, bne_eq_false_iff_eq] at t
    have : critB b S' j i = true := hci.2 ⟨t.1.1, t.1.2, by have := t.2; rw [w64_eq _ (by omega)] at this; exact this⟩
    unfold critF; rw [this]; rfl
/-- the arcs that c tells of, in order -/
def arcsR (c : Nat → Nat → Bool) (j i : Nat) : List (Nat × Nat) := ((List.range i).filter (c j)).map fun i => (j, i)
def arcsV (c : Nat → Nat → Bool) (n : Nat) : Nat → List (Nat × Nat)
  | 0 => []
  | j + 1 => arcsV c n j ++ arcsR c j n
def encA (p : Nat × Nat) : List Int := [(p.1 : Int), (p.2 : Int)]
theorem arcsR_succ (c : Nat → Nat → Bool) (j i : Nat) : arcsR c j (i + 1) = arcsR c j i ++ (bif c j i then [(j, i)] else []) := by
  unfold arcsR
  rw [List.range_succ, List.filter_append, List.map_append]
  cases h : c j i <;> simp [h]
theorem arcsR_len (c : Nat → Nat → Bool) (j i : Nat) : (arcsR c j i).length ≤ i := by
  unfold arcsR
  have := List.length_filter_le (c j) (List.range i)
  rw [List.length_range] at this
  rw [List.length_map]; exact this
theorem arcsV_len (c : Nat → Nat → Bool) (n : Nat) : ∀ j, (arcsV c n j).length ≤ j * n
  | 0 => by simp [arcsV]
  | j + 1 => by
    have := arcsV_len c n j
    have := arcsR_len c j n
    rw [arcsV, List.length_append, Nat.add_mul, Nat.one_mul]; omega
theorem arcsV_mem (c : Nat → Nat → Bool) (n : Nat) : ∀ k p, p ∈ arcsV c n k ↔ p.1 < k ∧ p.2 < n ∧ c p.1 p.2 = true
  | 0, p => by simp [arcsV]
  | k + 1, p => by
    rw [arcsV, List.mem_append, arcsV_mem c n k p]
    unfold arcsR
    simp only [List.mem_map, List.mem_filter, List.mem_range]
    constructor
    · rintro (⟨h1, h2⟩ | ⟨i, ⟨h1, h2⟩, rfl⟩)
      · exact ⟨by omega, h2⟩
      · exact ⟨by simp only; omega, h1, h2⟩
    · rintro ⟨h1, h2, h3⟩
      by_cases e : p.1 = k
      · exact .inr ⟨p.2, ⟨h2, by rw [← e]; exact h3⟩, by rw [← e]⟩
      · exact .inl ⟨by omega, h2, h3⟩
def rowV (c : Nat → Nat → Bool) (n j : Nat) : Nat → List (Nat × Nat)
  | 0 => arcsV c n j
  | i + 1 => rowV c n j i ++ (bif c j i then [(j, i)] else [])
theorem rowV_eq (c : Nat → Nat → Bool) (n j : Nat) : ∀ i, rowV c n j i = arcsV c n j ++ arcsR c j i
  | 0 => by simp [rowV, arcsR]
  | i + 1 => by rw [rowV, rowV_eq c n j i, arcsR_succ, List.append_assoc]
theorem arcs_loop {b S : List (List Int)} {n : Nat} (hb : Shp b n) (bl : b.length = n) (hS : Shp S n) (Sl : S.length = n) :
    M.Conv (M.forI 0 (n : Int) (fun s => s) (fun i1 => (fun (s1 : (List (List Int))) => M.bind (M.forI 0 (n : Int) (fun s => s) (fun i2 => (fun (s2 : (List (List Int))) => M.bind (M.idx b i2) (fun x7 => M.bind (M.idx x7 i1) (fun x8 => M.bind (M.idx S i1) (fun x9 => M.bind (M.idx x9 i2) (fun x10 => M.bind (spec_l01Times x8 x10) (fun x11 => M.bind (M.ite (x11 == 0) (M.bind (M.app s2 [([i1, i2] : List Int)]) (fun l1 => M.ret l1)) (M.ret s2)) (fun (s3 : (List (List Int))) => M.ret (.inl s3))))))))) s1) (fun x6 => M.ret (.inl x6)))) ([] : List (List Int))) ((arcsV (critB b S) n n).map encA) := by
  have hn := hb.cols
  refine Conv_forV (fun j => (arcsV (critB b S) n j).map encA) (by omega) fun j hj => ?_
  refine M.Conv_bind (x := (rowV (critB b S) n j n).map encA) (Conv_forV (fun i => (rowV (critB b S) n j i).map encA) (by omega) fun i hi => ?_) ((M.Conv_ret _).of (by rw [rowV_eq]; rfl))
  have rdS : M.Conv (M.idx S (j : Int)) (rowN S j) ∧ M.Conv (M.idx (rowN S j) (i : Int)) (entA S j i) := by
    have hjS : j < S.length := by rw [Sl]; exact hj
    have hrl := hS.row _ (List.mem_of_getElem? (rowN_get hjS))
    have g2 := nd_read (l := rowN S j) (i := i) (by omega)
    rw [nd_row hjS] at g2
    exact ⟨get_row (rowN_get hjS), g2⟩
  have rdB : M.Conv (M.idx b (i : Int)) (rowN b i) ∧ M.Conv (M.idx (rowN b i) (j : Int)) (entA b i j) := by
    have hib : i < b.length := by rw [bl]; exact hi
    have hrl := hb.row _ (List.mem_of_getElem? (rowN_get hib))
    have g2 := nd_read (l := rowN b i) (i := j) (by omega)
    rw [nd_row hib] at g2
    exact ⟨get_row (rowN_get hib), g2⟩
  have hl1 := arcsV_len (critB b S) n j
  have hl2 := arcsR_len (critB b S) j i
  have hjn : j * n ≤ 100 := Nat.mul_le_mul (show j ≤ 10 by omega) (show n ≤ 10 by omega)
  have hl3 : ((rowV (critB b S) n j i).map encA).length ≤ 200 := by rw [List.length_map, rowV_eq, List.length_append]; omega
  refine M.Conv_bind rdB.1 (M.Conv_bind rdB.2 (M.Conv_bind rdS.1 (M.Conv_bind rdS.2 (M.Conv_bind (spec_l01Times_ok _ _) (M.Conv_bind (x := (rowV (critB b S) n j (i + 1)).map encA) ?_ (M.Conv_ret _))))))
  rw [rowV]
  refine M.Conv_ite (fun t => M.Conv_bind (M.Conv_app (by rw [List.length_cons, List.length_nil]; omega)) ((M.Conv_ret _).of ?_)) (fun t => (M.Conv_ret _).of ?_)
  · rw [show critB b S j i = true from t]; simp [encA]
  · rw [show critB b S j i = false from t]; simp
theorem arcs_tc {a : List (List Int)} (hm : Mat a a.length) (hex : ∃ l w, Cl a a.length l w) : ∃ l W r S, CritP a l W r S ∧ M.Conv (spec_l06Arcs a) ((arcsV (critB (matF a.length a.length (shF a r.Den r.Num)) S) a.length a.length).map encA) := by
  have hrows := hm.rows
  have hs := hm.shp
  have hA := mat_ent hm
  obtain ⟨q, q1, q2⟩ := best_tc hm
  obtain ⟨l0, w0, h0⟩ := hex
  obtain ⟨hq, l, W, eq1, hmc⟩ := q2.resolve_left fun h => h.2 l0 w0 h0
  obtain ⟨r, S, h⟩ := crit_get hm hmc
  have hlen := hmc.wc.len
  have hb := hmc.wc.cl.bd hA
  refine ⟨l, W, r, S, h, ?_⟩
  have hmean : M.Conv (spec_l04Mean a q.1) (r, true) := by
    obtain ⟨r', r1, _, hr'⟩ := ratio_ok (x := W) (d := (l.length : Int)) (by omega) (by omega)
    have e := hmc.same hmc hr' h.rp
    rw [eq1, ← e]
    unfold spec_l04Mean
    exact M.Conv_bind (cycle_conv hs rfl hA hmc.wc) (M.Conv_ite (fun t => by cases t) (fun _ => M.Conv_bind (x := r') (by rw [List.length_map]; exact r1) (M.Conv_ret _)))
  have hsc := shift_conv hs rfl h.sh
  have hstar : ∃ bb, M.Conv (spec_l03Star (matF a.length a.length (shF a r.Den r.Num))) (S, bb) := by
    have hbs : Shp (matF a.length a.length (shF a r.Den r.Num)) a.length := shp_of (by omega) (by omega)
    obtain ⟨S', bb, s1, s2⟩ := star_pow hbs (matF_len _ _ _) h.sh.bd (by omega) (by omega)
    have := (s2.star h.np).unique h.st
    rw [← this]
    exact ⟨bb, s1⟩
  obtain ⟨bb, hstar⟩ := hstar
  have hloop := arcs_loop (b := matF a.length a.length (shF a r.Den r.Num)) (S := S) (n := a.length) (shp_of (by omega) (by omega)) (matF_len _ _ _) h.st.shp h.st.len
  unfold spec_l06Arcs
  exact M.Conv_bind q1 (M.Conv_bind hmean (M.Conv_bind hsc (M.Conv_bind hstar (M.Conv_bind hloop (M.Conv_ret _)))))

theorem l06_loop {a : List (List Int)} {n : Nat} (hs : Shp a n) (al : a.length = n) {L : List (Nat × Nat)} (hL : ∀ p ∈ L, p.1 < n ∧ p.2 < n) (hll : L.length ≤ 1000) :
    M.Conv (M.forI 0 ((L.map encA).length : Int) (fun s => s) (fun i1 => (fun (s1 : (List (List Int))) => M.bind (M.idx (L.map encA) i1) (fun x4 => M.bind (M.idx x4 1) (fun x5 => M.bind (M.idx (L.map encA) i1) (fun x6 => M.bind (M.idx x6 0) (fun x7 => M.bind (M.idx s1 x5) (fun x8 => M.bind (M.idx a x5) (fun x9 => M.bind (M.idx x9 x7) (fun x10 => M.bind (M.idx x8 x7) (fun _ => M.bind (M.upd x8 x7 x10) (fun l1 => M.ret (.inl (s1.set x5.toNat l1))))))))))))) (matF n n fun _ _ => -1000000000000000)) (matF n n fun i j => if (j, i) ∈ L then entA a i j else -1000000000000000) := by
  have hn := hs.cols
  have e0 : (matF n n fun _ _ => (-1000000000000000 : Int)) = matF n n fun i j => if (j, i) ∈ L.take 0 then entA a i j else -1000000000000000 := matF_congr fun i j _ _ => by simp
  have e1 : (matF n n fun i j => if (j, i) ∈ L then entA a i j else -1000000000000000) = matF n n fun i j => if (j, i) ∈ L.take L.length then entA a i j else -1000000000000000 := by rw [List.take_length]
  rw [e0, e1, List.length_map]
  refine Conv_forV (fun k => matF n n fun i j => if (j, i) ∈ L.take k then entA a i j else -1000000000000000) (by omega) fun k hk => ?_
  obtain ⟨h1, h2⟩ := hL _ (List.getElem_mem hk)
  have ht : L.take (k + 1) = L.take k ++ [L[k]] := by rw [List.take_add_one]; simp [hk]
  have hp : M.Conv (M.idx (L.map encA) (k : Int)) (encA L[k]) := M.Conv_idx (by simp [hk])
  generalize L[k] = p at *
  have hrl := hs.row _ (List.mem_of_getElem? (rowN_get (a := a) (i := p.2) (by omega)))
  have g1 : M.Conv (M.idx a ((p.2 : Nat) : Int)) (rowN a p.2) := get_row (rowN_get (by omega))
  have g2 := nd_read (l := rowN a p.2) (i := p.1) (by omega)
  rw [nd_row (by omega)] at g2
  refine M.Conv_bind hp (M.Conv_bind (x := (p.2 : Int)) (M.Conv_idx (i := 1) rfl) (M.Conv_bind hp (M.Conv_bind (x := (p.1 : Int)) (M.Conv_idx (i := 0) rfl) (M.Conv_bind (idx_tab h2) (M.Conv_bind g1 (M.Conv_bind g2 (M.Conv_bind (idx_tab h1) (M.Conv_bind (M.Conv_upd (by rw [tab_len]; exact h1)) ((M.Conv_ret _).of (congrArg Sum.inl ?_))))))))))
  have := matF_set (m := n) (n := n) (i := p.2) (j := p.1) (f := fun i j => if (j, i) ∈ L.take k then entA a i j else -1000000000000000) (g := fun i j => if (j, i) ∈ L.take (k + 1) then entA a i j else -1000000000000000) (fun i j _ _ hne => by
    rw [ht]
    have : (j, i) ≠ p := fun e => hne (by rw [← e]; exact ⟨rfl, rfl⟩)
    simp [this])
  simp only [Int.toNat_natCast]
  rw [← this]
  congr 2
  rw [ht, if_pos (by simp)]
theorem critical_both {a : List (List Int)} (sa : smII a) (hs : sqB a = true) : ∃ w, M.Conv (impl_criticalOf a) w ∧ ((w.2 = 4 ∧ (∀ l w, ¬ Cl a a.length l w) ∧ M.Conv (spec_l06Code a) 4) ∨ (w.2 = 0 ∧ M.Conv (spec_l06Code a) 0 ∧ M.Conv (spec_l06Matrix a) w.1 ∧ ∃ l W r S, CritP a l W r S ∧ w.1 = matF a.length a.length (critF (matF a.length a.length (shF a r.Den r.Num)) S a) ∧ M.Conv (spec_l06Arcs a) ((arcsV (critB (matF a.length a.length (shF a r.Den r.Num)) S) a.length a.length).map encA))) := by
  have hm := sq_mat hs
  have hrows := hm.rows
  obtain ⟨x, x1, x2⟩ := cycleMean_tc hm
  obtain ⟨q, q1, q2⟩ := best_tc hm
  have code : ∀ b : Bool, q.2 = b → M.Conv (spec_l06Code a) (bif b then 0 else 4) := fun b hb => by
    unfold spec_l06Code
    refine M.Conv_bind (spec_l02Square_ok sa) (M.Conv_ite (fun t => by rw [hs] at t; cases t) (fun _ => M.Conv_bind q1 (M.Conv_ite (fun t => (M.Conv_ret _).of ?_) (fun t => (M.Conv_ret _).of ?_))))
    · cases b with
      | true => rw [hb] at t; cases t
      | false => rfl
    · cases b with
      | true => rfl
      | false => rw [hb] at t; cases t
  rcases x2 with ⟨h1, hno⟩ | ⟨h1, l', W', hmc', hr'⟩
  · refine ⟨([], 4), M.Conv_bind (impl_isSquare_ok sa) (M.Conv_ite (fun t => by rw [hs] at t; cases t) (fun _ => M.Conv_bind x1 (M.Conv_ite (fun _ => M.Conv_ret _) (fun t => by rw [h1] at t; cases t)))), .inl ⟨rfl, hno, ?_⟩⟩
    have : q.2 = false := by
      rcases q2 with h | ⟨_, l, W, _, h⟩
      · exact h.1
      · exact absurd h.wc.cl (hno l W)
    exact code false this
  · have hq : q.2 = true := by
      rcases q2 with ⟨_, h⟩ | h
      · exact absurd hmc'.wc.cl (h l' W')
      · exact h.1
    obtain ⟨l, W, r, S, h, harc⟩ := arcs_tc hm ⟨l', W', hmc'.wc.cl⟩
    have er : x.1 = r := hmc'.same h.mc hr' h.rp
    refine ⟨(matF a.length a.length (critF (matF a.length a.length (shF a r.Den r.Num)) S a), 0), M.Conv_bind (impl_isSquare_ok sa) (M.Conv_ite (fun t => by rw [hs] at t; cases t) (fun _ => M.Conv_bind x1 (M.Conv_ite (fun t => by rw [h1] at t; cases t) (fun _ => M.Conv_bind (by rw [er]; exact criticalOf_ok hm h) (M.Conv_ret _))))), .inr ⟨rfl, code true hq, ?_, l, W, r, S, h, rfl, harc⟩⟩
    have hent := fun i j (hi : i < a.length) (hj : j < a.length) => h.ent hm hi hj
    have hlen := arcsV_len (critB (matF a.length a.length (shF a r.Den r.Num)) S) a.length a.length
    have hnn : a.length * a.length ≤ 100 := Nat.mul_le_mul (show a.length ≤ 10 by omega) (show a.length ≤ 10 by omega)
    have hloop := l06_loop hm.shp rfl (L := arcsV (critB (matF a.length a.length (shF a r.Den r.Num)) S) a.length a.length) (fun p hp => by
      have := (arcsV_mem _ _ _ p).1 hp
      exact ⟨this.1, this.2.1⟩) (by omega)
    unfold spec_l06Matrix
    refine M.Conv_bind (spec_l02Bottom_ok (by omega) (by omega)) (M.Conv_bind harc (M.Conv_bind hloop ((M.Conv_ret _).of (matF_congr fun i j hi hj => ?_))))
    unfold critF
    by_cases c : critB (matF a.length a.length (shF a r.Den r.Num)) S j i = true
    · rw [if_pos ((arcsV_mem _ _ _ _).2 ⟨hj, hi, c⟩), c]; rfl
    · rw [if_neg (fun hmem => c ((arcsV_mem _ _ _ _).1 hmem).2.2)]
      cases h2 : critB (matF a.length a.length (shF a r.Den r.Num)) S j i with
      | true => exact absurd h2 c
      | false => rfl

theorem bmset {n i j : Nat} {f g : Nat → Nat → Bool} {v : Bool} (hv : v = g i j) (e : ∀ p q, p < n → q < n → ¬ (p = i ∧ q = j) → f p q = g p q) : (bmF n f).set i ((tab n (f i)).set j v) = bmF n g := by
  by_cases hi : i < n
  · exact tab_set (tab_set hv fun q hq hne => e i q hi hq (by omega)) fun p hp hne => tab_congr fun q hq => e p q hp hq (by omega)
  · unfold bmF
    rw [List.set_eq_of_length_le (by rw [tab_len]; omega)]
    exact tab_congr fun p hp => tab_congr fun q hq => e p q hp hq (by omega)
def arcB (a : List (List Int)) (p q : Nat) : Bool := p == q || entA a q p != (-1000000000000000)
def warB (r : Nat → Nat → Bool) (k p q : Nat) : Bool := r p q || (r p k && r k q)
def mixB (f g : Nat → Nat → Bool) (i j p q : Nat) : Bool := bif decide (p < i) || (decide (p = i) && decide (q < j)) then g p q else f p q
theorem mix_step {n i j : Nat} {f g : Nat → Nat → Bool} {v : Bool} (hv : v = g i j) : (bmF n (mixB f g i j)).set i ((tab n (mixB f g i j i)).set j v) = bmF n (mixB f g i (j + 1)) := by
  refine bmset (by rw [hv]; simp [mixB]) fun p q _ _ h => ?_
  unfold mixB
  congr 1
  rw [Bool.eq_iff_iff]; simp; omega
theorem mix_row {n i : Nat} {f g : Nat → Nat → Bool} : bmF n (mixB f g i n) = bmF n (mixB f g (i + 1) 0) := by
  refine tab_congr fun p _ => tab_congr fun q hq => ?_
  unfold mixB
  congr 1
  rw [Bool.eq_iff_iff]; simp; omega
theorem mix_zero {n : Nat} {f g : Nat → Nat → Bool} : bmF n (mixB f g 0 0) = bmF n f := tab_congr fun p _ => tab_congr fun q _ => by simp [mixB]
theorem mix_all {n : Nat} {f g : Nat → Nat → Bool} : bmF n (mixB f g n 0) = bmF n g := tab_congr fun p hp => tab_congr fun q _ => by simp [mixB, hp]
def warN (a : List (List Int)) : Nat → Nat → Nat → Bool
  | 0 => arcB a
  | k + 1 => warB (warN a k) k
theorem warN_ok {a : List (List Int)} {n : Nat} : ∀ k, k ≤ n → (∀ v, warN a k v v = true) ∧ (∀ v i, v < n → i < n → arcE a v i → warN a k v i = true) ∧ (∀ v i, v < n → i < n → warN a k v i = true → Rch (arcE a) n v i) ∧ ∀ m v i, m < k → warN a k v m = true → warN a k m i = true → warN a k v i = true
  | 0, _ => ⟨fun v => by simp [warN, arcB], fun v i _ _ h => by
      unfold arcE at h
      simp [warN, arcB, h], fun v i hv hi h => by
      simp only [warN, arcB, Bool.or_eq_true, beq_iff_eq, bne_iff_ne, ne_eq] at h
      rcases h with rfl | h
      · exact .refl _ _ _
      · exact (Rch.refl _ _ _).step hv hi h, fun m v i hm => by omega⟩
  | k + 1, hk => by
    obtain ⟨h1, h2, h3, h4⟩ := warN_ok (a := a) (n := n) k (by omega)
    refine ⟨fun v => by simp [warN, warB, h1], fun v i hv hi h => by simp [warN, warB, h2 v i hv hi h], fun v i hv hi h => ?_, fun m v i hm ha hb => ?_⟩
    · simp only [warN, warB, Bool.or_eq_true, Bool.and_eq_true] at h
      rcases h with h | ⟨h, h'⟩
      · exact h3 v i hv hi h
      · exact (h3 v k hv (by omega) h).trans (h3 k i (by omega) hi h')
    · simp only [warN, warB, Bool.or_eq_true, Bool.and_eq_true] at ha hb ⊢
      have c1 := h4
      by_cases e : m = k
      · subst e
        have ha : warN a m v m = true := ha.elim id fun h => h.1
        have hb : warN a m m i = true := hb.elim id fun h => h.2
        exact .inr ⟨ha, hb⟩
      · have hm' : m < k := by omega
        rcases ha with ha | ⟨ha, ha'⟩
        · rcases hb with hb | ⟨hb, hb'⟩
          · exact .inl (h4 m v i hm' ha hb)
          · exact .inr ⟨h4 m v k hm' ha hb, hb'⟩
        · rcases hb with hb | ⟨hb, hb'⟩
          · exact .inr ⟨ha, h4 m k i hm' ha' hb⟩
          · exact .inr ⟨ha, hb'⟩
theorem war_reach {a : List (List Int)} {n v i : Nat} (hv : v < n) (hi : i < n) : warN a n v i = true ↔ Rch (arcE a) n v i := by
  obtain ⟨h1, h2, h3, h4⟩ := warN_ok (a := a) (n := n) n (Nat.le_refl _)
  refine ⟨h3 v i hv hi, fun ⟨k, h⟩ => ?_⟩
  induction h with
  | nil => exact h1 v
  | step k j i hj hjn hin he ih => exact h4 j v i hjn (ih hjn ⟨k, hj⟩) (h2 j i hjn hin he)
theorem war_keep {a : List (List Int)} {n k : Nat} (hk : k < n) {i j p q : Nat} (h : p = k ∨ q = k) : mixB (warN a k) (warB (warN a k) k) i j p q = warN a k p q := by
  have h1 := (warN_ok (a := a) (n := n) k (by omega)).1 k
  unfold mixB
  have : warB (warN a k) k p q = warN a k p q := by
    unfold warB
    rcases h with rfl | rfl
    · rw [h1]; simp
    · rw [h1]; simp
  rw [this]
  cases decide (p < i) || (decide (p = i) && decide (q < j)) <;> rfl
theorem mix_ne {f g : Nat → Nat → Bool} {i j p q : Nat} (h : ¬ (p < i ∨ (p = i ∧ q < j))) : mixB f g i j p q = f p q := by
  unfold mixB
  rw [show (decide (p < i) || (decide (p = i) && decide (q < j))) = false by rw [Bool.eq_false_iff]; simp; omega]; rfl
theorem reaching_ok {a : List (List Int)} (hs : Shp a a.length) : M.Conv (impl_reaching a) (bmF a.length (warN a a.length)) := by
  have hn := hs.rows
  have rdA : ∀ i j : Nat, i < a.length → j < a.length → M.Conv (M.idx a (i : Int)) (rowN a i) ∧ M.Conv (M.idx (rowN a i) (j : Int)) (entA a i j) := fun i j hi hj => by
    have hrl := hs.row _ (List.mem_of_getElem? (rowN_get (a := a) (i := i) hi))
    have g2 := nd_read (l := rowN a i) (i := j) (by omega)
    rw [nd_row hi] at g2
    exact ⟨get_row (rowN_get hi), g2⟩
  unfold impl_reaching
  refine M.Conv_bind ((M.Conv_make (by omega) (by omega)).of (r' := tab a.length fun p => bif decide (p < 0) then tab a.length (arcB a p) else []) (by rw [Int.toNat_natCast, tab_rep]; exact tab_congr fun i _ => by simp)) ?_
  rw [tab_len]
  refine M.Conv_bind (x := bmF a.length (arcB a)) ((Conv_forV (fun i => tab a.length fun p => bif decide (p < i) then tab a.length (arcB a p) else []) (by omega) fun i hi => ?_).of (tab_congr fun p hp => by rw [decide_eq_true hp]; rfl)) ?_
  · refine M.Conv_bind ((M.Conv_make (by omega) (by omega)).of (r' := tab a.length fun _ => false) (by rw [Int.toNat_natCast, tab_rep])) ?_
    let st : Nat → List (List Bool) := fun j => tab a.length fun p => if p = i then tab a.length (fun q => bif decide (q < j) then arcB a i q else false) else (bif decide (p < i) then tab a.length (arcB a p) else [])
    refine M.Conv_bind (idx_tab hi) (M.Conv_bind (x := st 0) ((M.Conv_upd (by rw [tab_len]; exact hi)).of (tab_set (by rw [if_pos rfl]; exact tab_congr fun q _ => by simp) fun p _ hp => by rw [if_neg hp])) (M.Conv_bind (x := st a.length) (Conv_forV st (by omega) fun j hj => ?_) ((M.Conv_ret _).of (congrArg Sum.inl (tab_congr fun p hp => ?_)))))
    · have hrow : M.Conv (M.idx (st j) (i : Int)) (tab a.length fun q => bif decide (q < j) then arcB a i q else false) := (idx_tab hi).of (if_pos rfl)
      have hset : ∀ v, v = arcB a i j → (st j).set i ((tab a.length fun q => bif decide (q < j) then arcB a i q else false).set j v) = st (j + 1) := fun v hv => by
        refine tab_set ?_ fun p _ hp => by simp only [if_neg hp]
        rw [if_pos rfl]
        refine tab_set (by simp [hv]) fun q _ hq => ?_
        congr 1
        rw [Bool.eq_iff_iff]; simp; omega
      refine M.Conv_bind (x := st (j + 1)) (M.Conv_bind hrow (M.Conv_ite (fun t => ?_) (fun t => ?_))) (M.Conv_ret _)
      · have e : i = j := by have := eq_of_beq t; omega
        exact M.Conv_bind (idx_tab hj) (M.Conv_bind (M.Conv_upd (by rw [tab_len]; exact hj)) ((M.Conv_ret _).of (hset _ (by simp [arcB, e]))))
      · have e : i ≠ j := fun e => by rw [e] at t; simp at t
        exact M.Conv_bind (rdA j i hj hi).1 (M.Conv_bind (rdA j i hj hi).2 (M.Conv_bind (idx_tab hj) (M.Conv_bind (M.Conv_upd (by rw [tab_len]; exact hj)) ((M.Conv_ret _).of (hset _ (by simp [arcB, e]))))))
    · by_cases e : p = i
      · rw [if_pos e, e, show decide (i < i + 1) = true by simp]
        exact tab_congr fun q hq => by rw [decide_eq_true hq]; rfl
      · rw [if_neg e]
        congr 1
        rw [Bool.eq_iff_iff]; simp; omega
  · refine M.Conv_bind (x := bmF a.length (warN a a.length)) (Conv_forV (fun k => bmF a.length (warN a k)) (by omega) fun k hk => ?_) (M.Conv_ret _)
    have e0 : bmF a.length (warN a k) = bmF a.length (mixB (warN a k) (warN a (k + 1)) 0 0) := mix_zero.symm
    rw [e0]
    refine M.Conv_bind ((Conv_forV (fun i => bmF a.length (mixB (warN a k) (warN a (k + 1)) i 0)) (by omega) fun i hi => ?_).of mix_all) (M.Conv_ret _)
    refine M.Conv_bind (Conv_forV (fun j => bmF a.length (mixB (warN a k) (warN a (k + 1)) i j)) (by omega) fun j hj => ?_) ((M.Conv_ret _).of (congrArg Sum.inl mix_row))
    have k1 : mixB (warN a k) (warN a (k + 1)) i j i j = warN a k i j := mix_ne (by omega)
    have k2 : mixB (warN a k) (warN a (k + 1)) i j i k = warN a k i k := war_keep hk (.inr rfl)
    have k3 : mixB (warN a k) (warN a (k + 1)) i j k j = warN a k k j := war_keep hk (.inl rfl)
    have upd : ∀ v, v = warN a (k + 1) i j → M.Conv (M.upd (tab a.length (mixB (warN a k) (warN a (k + 1)) i j i)) (j : Int) v) ((tab a.length (mixB (warN a k) (warN a (k + 1)) i j i)).set j v) ∧ (bmF a.length (mixB (warN a k) (warN a (k + 1)) i j)).set ((i : Int)).toNat ((tab a.length (mixB (warN a k) (warN a (k + 1)) i j i)).set j v) = bmF a.length (mixB (warN a k) (warN a (k + 1)) i (j + 1)) := fun v hv => ⟨M.Conv_upd (by rw [tab_len]; exact hj), by rw [Int.toNat_natCast]; exact mix_step hv⟩
    refine M.Conv_bind (x := bmF a.length (mixB (warN a k) (warN a (k + 1)) i (j + 1))) (M.Conv_bind (idx_tab hk) (M.Conv_bind (idx_tab hi) (M.Conv_bind (idx_tab hi) (M.Conv_bind ((idx_tab hj).of k1) (M.Conv_ite (fun t => ?_) (fun t => M.Conv_bind ((idx_tab hk).of k2) (M.Conv_ite (fun t2 => ?_) (fun t2 => ?_)))))))) (M.Conv_ret _)
    · obtain ⟨u1, u2⟩ := upd true (by simp [warN, warB, t])
      exact M.Conv_bind (idx_tab hj) (M.Conv_bind u1 ((M.Conv_ret _).of u2))
    · obtain ⟨u1, u2⟩ := upd (warN a k k j) (by simp [warN, warB, t, t2])
      exact M.Conv_bind ((idx_tab hj).of k3) (M.Conv_bind (idx_tab hj) (M.Conv_bind u1 ((M.Conv_ret _).of u2)))
    · obtain ⟨u1, u2⟩ := upd false (by simp [warN, warB, t, t2])
      exact M.Conv_bind (idx_tab hj) (M.Conv_bind u1 ((M.Conv_ret _).of u2))
theorem compsF_congr {n : Nat} {r r' : Nat → Nat → Bool} (h : ∀ v i, v < n → i < n → r v i = r' v i) : compsF r n = compsF r' n := by
  have hc : ∀ v, v < n → compF r n v = compF r' n v := fun v hv => by
    unfold compF
    congr 1
    refine List.filter_congr fun w hw => ?_
    have hw := List.mem_range.1 hw
    rw [h v w hv hw, h w v hw hv]
  unfold compsF
  rw [List.filter_congr (q := fun (v : Nat) => (compF r' n v).head? == some (v : Int)) fun v hv => by rw [hc v (List.mem_range.1 hv)]]
  exact List.map_congr_left fun v hv => hc v (List.mem_range.1 (List.mem_filter.1 hv).1)
/-- the components by both roads -/
theorem components_both {a : List (List Int)} (hs : Shp a a.length) : ∃ r : Nat → Nat → Bool, M.Conv (spec_l05Components a) (compsF r a.length) ∧ M.Conv (impl_componentsOf a) (compsF r a.length) ∧ ∀ v i, v < a.length → i < a.length → (r v i = true ↔ Rch (arcE a) a.length v i) := by
  obtain ⟨r, h1, h2⟩ := spec_l05Components_ok hs
  have hn := hs.rows
  refine ⟨r, h1, ?_, h2⟩
  rw [compsF_congr (r' := warN a a.length) fun v i hv hi => by rw [Bool.eq_iff_iff, h2 v i hv hi, war_reach hv hi]]
  unfold impl_componentsOf
  exact M.Conv_bind (reaching_ok hs) (comps_ok (by omega) fun v hv => (war_reach hv hv).2 (Rch.refl _ _ _))

theorem CritP.arc {a : List (List Int)} (hm : Mat a a.length) {l : List Nat} {W : Int} {r : TRatio} {S : List (List Int)} (h : CritP a l W r S) {i k : Nat} (hi : i < a.length) (hk : k < a.length) : arcE (matF a.length a.length (critF (matF a.length a.length (shF a r.Den r.Num)) S a)) k i ↔ critB (matF a.length a.length (shF a r.Den r.Num)) S k i = true := by
  unfold arcE
  rw [entA_matF hi hk]
  unfold critF
  obtain ⟨e1, e2⟩ := h.ent hm hi hk
  have hci := critB_iff e1 e2
  cases c : critB (matF a.length a.length (shF a r.Den r.Num)) S k i with
  | false => simp
  | true =>
    obtain ⟨q1, _, _⟩ := hci.1 c
    simp only [cond_true, iff_true]
    rcases h.sh.val hi hk with e | e
    · exact absurd e.2 q1
    · exact e.1
theorem CritP.on {a : List (List Int)} (hm : Mat a a.length) {l : List Nat} {W : Int} {r : TRatio} {S : List (List Int)} (h : CritP a l W r S) {i j : Nat} (hi : i < a.length) (hj : j < a.length) {b0 : Int} (hb : entA (matF a.length a.length (shF a r.Den r.Num)) i j = b0) (hne : b0 ≠ -1000000000000000) :
    ∀ {m x : Nat} {w1 : Int}, Wlk (matF a.length a.length (shF a r.Den r.Num)) a.length i m x w1 → ∀ {m2 : Nat} {w2 : Int}, Wlk (matF a.length a.length (shF a r.Den r.Num)) a.length x m2 j w2 → w1 + w2 + b0 = 0 → Rch (arcE (matF a.length a.length (critF (matF a.length a.length (shF a r.Den r.Num)) S a))) a.length i x := by
  intro m x w1 h1
  induction h1 with
  | nil _ => intro m2 w2 _ _; exact .refl _ _ _
  | step m y x w0 hw hx ha ih =>
    intro m2 w2 h2 hsum
    have hy := hw.lt.2
    -- from y on: the arc, then the rest
    have hrest : Wlk (matF a.length a.length (shF a r.Den r.Num)) a.length y (1 + m2) j (entA (matF a.length a.length (shF a r.Den r.Num)) x y + w2) := by
      have := Wlk.step 0 y x 0 (.nil hy) hx ha
      rw [Int.zero_add] at this
      exact Wlk.trans (k := 1) this h2
    have hr := ih hrest (by omega)
    refine hr.step hy hx ((h.arc hm hx hy).2 ?_)
    obtain ⟨e1, e2⟩ := h.ent hm hx hy
    -- back from x to y
    have hback : Wlk (matF a.length a.length (shF a r.Den r.Num)) a.length x (m2 + 1 + m) y (w2 + b0 + w0) := by
      have := Wlk.step m2 j i w2 h2 hi (by rw [hb]; exact hne)
      rw [hb] at this
      exact this.trans hw
    obtain ⟨c1, c2⟩ := h.st.cpl y x _ _ hback
    obtain ⟨k, hk⟩ := (h.st.snd y x hy hx).resolve_left c1
    have hcl := h.np.closed (Wlk.step k y x _ hk hx ha)
    exact (critB_iff e1 e2).2 ⟨ha, c1, by omega⟩
theorem CritP.back {a : List (List Int)} (hm : Mat a a.length) {l : List Nat} {W : Int} {r : TRatio} {S : List (List Int)} (h : CritP a l W r S) {i j : Nat} (hi : i < a.length) (hj : j < a.length) (hc : critB (matF a.length a.length (shF a r.Den r.Num)) S j i = true) : Rch (arcE (matF a.length a.length (critF (matF a.length a.length (shF a r.Den r.Num)) S a))) a.length i j := by
  obtain ⟨e1, e2⟩ := h.ent hm hi hj
  obtain ⟨q1, q2, q3⟩ := (critB_iff e1 e2).1 hc
  obtain ⟨k, hk⟩ := (h.st.snd j i hj hi).resolve_left q2
  exact h.on hm hi hj rfl q1 hk (.nil hj) (by omega)
/-- a component keeps its first node's arcs -/
theorem CritP.keep {a : List (List Int)} (hm : Mat a a.length) {l : List Nat} {W : Int} {r : TRatio} {S : List (List Int)} (h : CritP a l W r S) {rr : Nat → Nat → Bool} (hr : ∀ v i, v < a.length → i < a.length → (rr v i = true ↔ Rch (arcE (matF a.length a.length (critF (matF a.length a.length (shF a r.Den r.Num)) S a))) a.length v i)) {v : Nat} (hv : v < a.length) :
    (∃ i, i < a.length ∧ critB (matF a.length a.length (shF a r.Den r.Num)) S v i = true) ↔ ¬ ((compF rr a.length v).length = 1 ∧ critB (matF a.length a.length (shF a r.Den r.Num)) S v v = false) := by
  have hvv : (v : Int) ∈ compF rr a.length v := compF_mem.2 ⟨v, rfl, hv, (hr v v hv hv).2 (.refl _ _ _), (hr v v hv hv).2 (.refl _ _ _)⟩
  constructor
  · rintro ⟨i, hi, hc⟩ ⟨h1, h2⟩
    have a1 : rr v i = true := (hr v i hv hi).2 ((Rch.refl _ _ _).step hv hi ((h.arc hm hi hv).2 hc))
    have a2 : rr i v = true := (hr i v hi hv).2 (h.back hm hi hv hc)
    have him : (i : Int) ∈ compF rr a.length v := compF_mem.2 ⟨i, rfl, hi, a1, a2⟩
    obtain ⟨x, hx⟩ := List.length_eq_one_iff.1 h1
    rw [hx, List.mem_singleton] at hvv him
    have : i = v := by omega
    rw [this] at hc
    rw [hc] at h2; cases h2
  · intro hno
    by_cases hself : critB (matF a.length a.length (shF a r.Den r.Num)) S v v = true
    · exact ⟨v, hv, hself⟩
    · have hlen : (compF rr a.length v).length ≠ 1 := fun e => hno ⟨e, by simpa using hself⟩
      -- another node of the component
      have : ∃ u, u < a.length ∧ u ≠ v ∧ rr v u = true := by
        apply Classical.byContradiction
        intro hnone
        refine hlen ?_
        have e : compF rr a.length v = [(v : Int)] := by
          unfold compF
          have : ((List.range a.length).filter fun w => rr v w && rr w v) = [v] := by
            have hvm : v ∈ (List.range a.length).filter fun w => rr v w && rr w v := by
              rw [List.mem_filter]
              exact ⟨List.mem_range.2 hv, by rw [(hr v v hv hv).2 (.refl _ _ _)]; rfl⟩
            have hall : ∀ w ∈ (List.range a.length).filter fun w => rr v w && rr w v, w = v := fun w hw => by
              rw [List.mem_filter, List.mem_range, Bool.and_eq_true] at hw
              exact Classical.byContradiction fun hne => hnone ⟨w, hw.1, hne, hw.2.1⟩
            have hnd : ((List.range a.length).filter fun w => rr v w && rr w v).Nodup := List.nodup_range.filter _
            revert hvm hall hnd
            generalize (List.range a.length).filter (fun w => rr v w && rr w v) = L
            intro hvm hall hnd
            cases L with
            | nil => simp at hvm
            | cons x L =>
              have hx := hall x List.mem_cons_self
              cases L with
              | nil => rw [hx]
              | cons y L =>
                have hy := hall y (by simp)
                rw [hx, hy] at hnd
                simp at hnd
          rw [this]; rfl
        rw [e]; rfl
      obtain ⟨u, hu, hne, hru⟩ := this
      obtain ⟨k, hk⟩ := (hr v u hv hu).1 hru
      -- the first arc of the way from v
      have first : ∀ {k u : Nat}, RK (arcE (matF a.length a.length (critF (matF a.length a.length (shF a r.Den r.Num)) S a))) a.length v k u → u ≠ v → ∃ i, i < a.length ∧ critB (matF a.length a.length (shF a r.Den r.Num)) S v i = true := by
        intro k u hk
        induction hk with
        | nil k => intro hne; exact absurd rfl hne
        | step k j i _ hj hi he ih =>
          intro _
          by_cases e : j = v
          · subst e
            exact ⟨i, hi, (h.arc hm hi hj).1 he⟩
          · exact ih e
      exact first hk hne

def firsts (L : List (Nat × Nat)) (o : List Nat) : List Nat := L.foldl (fun o p => if p.1 ∈ o then o else o ++ [p.1]) o
theorem firsts_snoc (L : List (Nat × Nat)) (p : Nat × Nat) (o : List Nat) : firsts (L ++ [p]) o = if p.1 ∈ firsts L o then firsts L o else firsts L o ++ [p.1] := by
  unfold firsts; rw [List.foldl_append]; rfl
theorem firsts_app (L M : List (Nat × Nat)) (o : List Nat) : firsts (L ++ M) o = firsts M (firsts L o) := by
  unfold firsts; rw [List.foldl_append]
theorem firsts_len : ∀ (L : List (Nat × Nat)) (o : List Nat), (firsts L o).length ≤ o.length + L.length
  | [], o => by simp [firsts]
  | p :: L, o => by
    show (firsts L (if p.1 ∈ o then o else o ++ [p.1])).length ≤ _
    by_cases e : p.1 ∈ o
    · rw [if_pos e]
      have := firsts_len L o
      simp only [List.length_cons]; omega
    · rw [if_neg e]
      have := firsts_len L (o ++ [p.1])
      simp only [List.length_cons, List.length_append, List.length_nil] at this ⊢; omega
theorem firsts_in {j : Nat} : ∀ (L : List (Nat × Nat)) (o : List Nat), (∀ p ∈ L, p.1 = j) → j ∈ o → firsts L o = o
  | [], o, _, _ => rfl
  | p :: L, o, h, hj => by
    show firsts L (if p.1 ∈ o then o else o ++ [p.1]) = o
    rw [if_pos (by rw [h p List.mem_cons_self]; exact hj)]
    exact firsts_in L o (fun q hq => h q (List.mem_cons_of_mem _ hq)) hj
def nodesC (c : Nat → Nat → Bool) (n m : Nat) : List Nat := (List.range m).filter fun j => (List.range n).any (c j)
theorem firsts_arcs (c : Nat → Nat → Bool) (n : Nat) : ∀ m, firsts (arcsV c n m) [] = nodesC c n m
  | 0 => rfl
  | m + 1 => by
    rw [arcsV, firsts_app, firsts_arcs c n m]
    have hout : m ∉ nodesC c n m := fun h => by
      unfold nodesC at h
      rw [List.mem_filter, List.mem_range] at h
      omega
    have hall : ∀ p ∈ arcsR c m n, p.1 = m := fun p hp => by
      unfold arcsR at hp
      obtain ⟨i, _, rfl⟩ := List.mem_map.1 hp
      rfl
    have hmem : ∀ i, (m, i) ∈ arcsR c m n ↔ i < n ∧ c m i = true := fun i => by
      unfold arcsR
      simp only [List.mem_map, List.mem_filter, List.mem_range]
      constructor
      · rintro ⟨q, hq, e⟩
        have : q = i := by simpa using congrArg Prod.snd e
        rw [← this]; exact hq
      · exact fun h => ⟨i, h, rfl⟩
    unfold nodesC at hout ⊢
    rw [List.range_succ, List.filter_append]
    cases hany : (List.range n).any (c m) with
    | true =>
      have e2 : [m].filter (fun j => (List.range n).any (c j)) = [m] := by simp only [List.filter_cons, hany, if_true, List.filter_nil]
      rw [e2]
      rw [List.any_eq_true] at hany
      obtain ⟨i, hi, hc⟩ := hany
      have h1 := (hmem i).2 ⟨List.mem_range.1 hi, hc⟩
      cases hL : arcsR c m n with
      | nil => rw [hL] at h1; simp at h1
      | cons p L =>
        have hp := hall p (by rw [hL]; exact List.mem_cons_self)
        show firsts L (if p.1 ∈ _ then _ else _) = _
        rw [hp, if_neg hout]
        exact firsts_in L _ (fun q hq => hall q (by rw [hL]; exact List.mem_cons_of_mem _ hq)) (by simp)
    | false =>
      have e2 : [m].filter (fun j => (List.range n).any (c j)) = [] := by simp only [List.filter_cons, hany, Bool.false_eq_true, if_false, List.filter_nil]
      rw [e2, List.append_nil]
      have : arcsR c m n = [] := by
        unfold arcsR
        rw [List.map_eq_nil_iff, List.filter_eq_nil_iff]
        intro i hi hc
        rw [← Bool.not_eq_true, List.any_eq_true] at hany
        exact hany ⟨i, hi, hc⟩
      rw [this]; rfl
theorem nodes_conv {a : List (List Int)} {c : Nat → Nat → Bool} {n : Nat} (hn : n ≤ 10) (h : M.Conv (spec_l06Arcs a) ((arcsV c n n).map encA)) : M.Conv (spec_l06Nodes a) (toI (nodesC c n n)) := by
  have hlen := arcsV_len c n n
  have hnn : n * n ≤ 100 := Nat.mul_le_mul hn hn
  rw [← firsts_arcs c n n]
  generalize arcsV c n n = L at h hlen
  unfold spec_l06Nodes
  refine M.Conv_bind h (M.Conv_bind (x := toI (firsts L [])) ?_ (M.Conv_ret _))
  have e : toI (firsts L []) = toI (firsts (L.take L.length) []) := by rw [List.take_length]
  rw [e, List.length_map]
  refine Conv_forV (fun k => toI (firsts (L.take k) [])) (by omega) fun k hk => ?_
  have ht : L.take (k + 1) = L.take k ++ [L[k]] := by rw [List.take_add_one]; simp [hk]
  have hp : M.Conv (M.idx (L.map encA) (k : Int)) (encA L[k]) := M.Conv_idx (by simp [hk])
  have hfl := firsts_len (L.take k) []
  rw [List.length_take, List.length_nil] at hfl
  simp only [ht, firsts_snoc]
  generalize L[k] = p at *
  have hx : M.Conv (M.idx (encA p) 0) (p.1 : Int) := M.Conv_idx (i := 0) rfl
  have hhas := l01Has_ok (l := toI (firsts (L.take k) [])) (p.1 : Int) (by rw [List.length_map]; omega)
  have hb : ((toI (firsts (L.take k) [])).any fun y => y == (p.1 : Int)) = decide (p.1 ∈ firsts (L.take k) []) := by
    rw [Bool.eq_iff_iff, List.any_eq_true, decide_eq_true_eq]
    constructor
    · rintro ⟨y, hy, e⟩
      rw [eq_of_beq e] at hy
      exact toI_mem.1 hy
    · exact fun hm => ⟨_, toI_mem.2 hm, by simp⟩
  rw [hb] at hhas
  refine M.Conv_bind hp (M.Conv_bind hx (M.Conv_bind hhas (M.Conv_bind (x := toI (if p.1 ∈ firsts (L.take k) [] then firsts (L.take k) [] else firsts (L.take k) [] ++ [p.1])) (M.Conv_ite (fun t => ?_) (fun t => ?_)) (M.Conv_ret _))))
  · have t : p.1 ∉ firsts (L.take k) [] := by simpa using t
    rw [if_neg t]
    exact M.Conv_bind hp (M.Conv_bind hx (M.Conv_bind ((M.Conv_app (by simp; omega)).of (by simp)) (M.Conv_ret _)))
  · have t : p.1 ∈ firsts (L.take k) [] := by simpa using t
    rw [if_pos t]
    exact M.Conv_ret _

theorem find_row {s : List (List Int)} {del : List (List Int)} {p : List Int → Bool} (hs : s.length ≤ 1099511627776) (hp : ∀ x ∈ s, M.Conv (impl_criticalComponents_1 x del) (p x)) :
    M.TC (slices_IndexFunc_row_F_impl_criticalComponents_1 s del) (fun q => (q = -1 ∧ ∀ x ∈ s, p x = false) ∨ ∃ (i : Nat) (x : List Int), q = i ∧ s[i]? = some x ∧ p x = true ∧ ∀ y ∈ s.take i, p y = false) := by
  unfold slices_IndexFunc_row_F_impl_criticalComponents_1
  refine M.TC_bind (M.TC_forE (fun k (_ : Unit) => ∀ y ∈ s.take k, p y = false) (fun q => ∃ (i : Nat) (x : List Int), q = (i : Int) ∧ s[i]? = some x ∧ p x = true ∧ ∀ y ∈ s.take i, p y = false) (by omega) (by simp) (fun i u hi hI => ?_)) fun y hy => ?_
  · have hx := List.getElem?_eq_getElem hi
    have c := hp s[i] (List.getElem_mem hi)
    have e : s.take (i + 1) = s.take i ++ [s[i]] := by rw [List.take_add_one]; simp [hi]
    generalize s[i] = x at hx c e
    refine M.TC_bindC (M.Conv_idx hx) (M.TC_bindC c (M.TC_ite (fun t => M.TC_ret (.inr ⟨_, rfl, i, x, rfl, hx, t, hI⟩)) (fun t => M.TC_ret (.inl ⟨_, rfl, fun y hy => ?_⟩))))
    rw [e, List.mem_append, List.mem_singleton] at hy
    rcases hy with hy | rfl
    · exact hI y hy
    · exact t
  · rcases hy with ⟨u, rfl, h⟩ | ⟨r, rfl, h⟩
    · exact M.TC_ret (.inl ⟨rfl, fun x hx => h x (by rw [List.take_of_length_le (Nat.le_refl _)]; exact hx)⟩)
    · exact M.TC_ret (.inr h)
theorem del_ok {s : List (List Int)} {del : List (List Int)} {p : List Int → Bool} (hs : s.length ≤ 1099511627776) (hp : ∀ x ∈ s, M.Conv (impl_criticalComponents_1 x del) (p x)) :
    M.Conv (slices_DeleteFunc_row_F_impl_criticalComponents_1 s del) (s.filter fun x => !p x) := by
  apply M.TC.conv
  unfold slices_DeleteFunc_row_F_impl_criticalComponents_1
  refine M.TC_bind (find_row hs hp) fun q hq => ?_
  rcases hq with ⟨rfl, h⟩ | ⟨i, x, rfl, hx, hpx, h⟩
  · exact M.TC_ite (fun _ => M.TC_ret (List.filter_eq_self.2 fun y hy => by rw [h y hy]; rfl).symm) (fun t => by simp at t)
  · have hi := (List.getElem?_eq_some_iff.1 hx).1
    refine M.TC_ite (fun t => by have := eq_of_beq t; omega) (fun _ => ?_)
    rw [w64_eq _ (by omega)]
    refine M.TC_bind (M.TC_for (Post := fun (y : List (List Int) × Int) => ∃ k : Nat, y.2 = k ∧ k ≤ s.length ∧ y.1.length = s.length ∧ y.1.take k = s.filter fun x => !p x) (fun j (y : List (List Int) × Int) => ∃ k m : Nat, y.2 = k ∧ j = m ∧ k ≤ m ∧ m ≤ s.length ∧ y.1.length = s.length ∧ y.1.take k = ((s.take m).filter fun x => !p x) ∧ y.1.drop m = s.drop m) (s, (i : Int)) (by omega) (by omega) ⟨i, i + 1, rfl, by omega, by omega, by omega, rfl, ?_, rfl⟩ (fun j y h1 h2 hI => ?_) (fun j y hj hI => ?_)) fun y hy => ?_
    · rw [List.take_add_one, hx, List.filter_append, List.filter_eq_self.2 fun y hy => by rw [h y hy]; rfl]
      simp [hpx]
    · obtain ⟨L, k'⟩ := y
      obtain ⟨k, m, rfl, rfl, h3, h4, h5, h6, h7⟩ := hI
      simp only at h5 h6 h7
      have hm : m < s.length := by omega
      have hget : L[m]? = some s[m] := by
        have e1 : (L.drop m)[0]? = (s.drop m)[0]? := by rw [h7]
        rw [List.getElem?_drop, List.getElem?_drop, Nat.add_zero, List.getElem?_eq_getElem hm] at e1
        exact e1
      have c := hp s[m] (List.getElem_mem hm)
      have e : s.take (m + 1) = s.take m ++ [s[m]] := by rw [List.take_add_one]; simp [hm]
      have h8 : L.drop (m + 1) = s.drop (m + 1) := by
        have := congrArg (List.drop 1) h7
        rwa [List.drop_drop, List.drop_drop] at this
      generalize s[m] = x' at hget c e
      refine M.TC_bindC (M.Conv_idx hget) (M.TC_bindC c ?_)
      cases hpx' : p x' with
      | true =>
        refine M.TC_bindC (x := (L, (k : Int))) (M.Conv_ite (fun t => by cases t) (fun _ => M.Conv_ret _)) (M.TC_ret (.inl ⟨_, rfl, k, m + 1, rfl, by omega, by omega, by omega, h5, ?_, h8⟩))
        rw [e, List.filter_append, h6]
        simp [hpx']
      | false =>
        have hk : k < L.length := by omega
        refine M.TC_bindC (x := (L.set k x', (k : Int) + 1)) (M.Conv_ite (fun _ => M.Conv_bind (M.Conv_idx (List.getElem?_eq_getElem hk)) (M.Conv_bind (M.Conv_upd hk) ((M.Conv_ret _).of ?_))) (fun t => by cases t)) (M.TC_ret (.inl ⟨_, rfl, k + 1, m + 1, by simp, by omega, by omega, by omega, by simpa using h5, ?_, ?_⟩))
        · rw [w64_eq _ (by omega)]
        · simp only
          rw [e, List.filter_append, ← h6, List.take_add_one, List.getElem?_set_self hk, List.take_set_of_le (Nat.le_refl _)]
          simp [hpx']
        · simp only
          rw [List.drop_set_of_lt (by omega)]; exact h8
    · obtain ⟨k, m, h1, rfl, h3, h4, h5, h6, h7⟩ := hI
      have : m = s.length := by omega
      subst this
      rw [List.take_of_length_le (Nat.le_refl _)] at h6
      exact ⟨k, h1, h3, h5, h6⟩
    · obtain ⟨L, k'⟩ := y
      obtain ⟨k, rfl, h1, h2, h3⟩ := hy
      simp only at h2 h3
      have hlk : (L.take k).length = k := by rw [List.length_take]; omega
      refine M.TC_bindC (M.Conv_sub (by omega) (by show (k : Int) ≤ (s.length : Int); omega) (by show (s.length : Int) ≤ (L.length : Int); omega)) (M.TC_bindC (M.Conv_sub (by omega) (by omega) (by simp; omega)) (M.TC_ret ?_))
      simp only [Int.toNat_zero, List.drop_zero, Int.toNat_natCast, Nat.sub_zero]
      have e3 : (L.take k ++ List.replicate (s.length - k) []).take k = L.take k := by rw [List.take_append_of_le_length (by omega), List.take_of_length_le (by omega)]
      exact e3.trans h3
/-- the components that have an arc -/
def keepF (rr : Nat → Nat → Bool) (c : Nat → Nat → Bool) (n : Nat) : List (List Int) := ((List.range n).filter fun v => ((compF rr n v).head? == some (v : Int)) && (List.range n).any (c v)).map (compF rr n)
theorem lcomps_both {a : List (List Int)} (hm : Mat a a.length) {l : List Nat} {W : Int} {r : TRatio} {S : List (List Int)} (h : CritP a l W r S) (hmat : M.Conv (spec_l06Matrix a) (matF a.length a.length (critF (matF a.length a.length (shF a r.Den r.Num)) S a)))
    (harc : M.Conv (spec_l06Arcs a) ((arcsV (critB (matF a.length a.length (shF a r.Den r.Num)) S) a.length a.length).map encA)) :
    ∃ rr : Nat → Nat → Bool, (∀ v i, v < a.length → i < a.length → (rr v i = true ↔ Rch (arcE (matF a.length a.length (critF (matF a.length a.length (shF a r.Den r.Num)) S a))) a.length v i)) ∧
      M.Conv (impl_criticalComponents (matF a.length a.length (critF (matF a.length a.length (shF a r.Den r.Num)) S a))) (keepF rr (critB (matF a.length a.length (shF a r.Den r.Num)) S) a.length) ∧
      M.Conv (spec_l06Components a) (keepF rr (critB (matF a.length a.length (shF a r.Den r.Num)) S) a.length) := by
  have hrows := hm.rows
  have hnodes := nodes_conv (by omega) harc
  have harcs : ∀ {i k : Nat}, i < a.length → k < a.length → (arcE (matF a.length a.length (critF (matF a.length a.length (shF a r.Den r.Num)) S a)) k i ↔ critB (matF a.length a.length (shF a r.Den r.Num)) S k i = true) := fun hi hk => h.arc hm hi hk
  have hkeep := fun {rr : Nat → Nat → Bool} (hr : ∀ v i, v < a.length → i < a.length → (rr v i = true ↔ Rch (arcE (matF a.length a.length (critF (matF a.length a.length (shF a r.Den r.Num)) S a))) a.length v i)) {v : Nat} (hv : v < a.length) => h.keep hm hr hv
  generalize critB (matF a.length a.length (shF a r.Den r.Num)) S = c at *
  have hC : ∀ {i j : Nat}, i < a.length → j < a.length → M.Conv (M.idx (matF a.length a.length (critF (matF a.length a.length (shF a r.Den r.Num)) S a)) (i : Int)) (rowN (matF a.length a.length (critF (matF a.length a.length (shF a r.Den r.Num)) S a)) i) ∧ M.Conv (M.idx (rowN (matF a.length a.length (critF (matF a.length a.length (shF a r.Den r.Num)) S a)) i) (j : Int)) (entA (matF a.length a.length (critF (matF a.length a.length (shF a r.Den r.Num)) S a)) i j) := fun {i j} hi hj => by
    have hs : Shp (matF a.length a.length (critF (matF a.length a.length (shF a r.Den r.Num)) S a)) a.length := shp_of (by omega) (by omega)
    have hl := matF_len a.length a.length (critF (matF a.length a.length (shF a r.Den r.Num)) S a)
    have hrl := hs.row _ (List.mem_of_getElem? (rowN_get (a := matF a.length a.length (critF (matF a.length a.length (shF a r.Den r.Num)) S a)) (i := i) (by omega)))
    have g2 := nd_read (l := rowN (matF a.length a.length (critF (matF a.length a.length (shF a r.Den r.Num)) S a)) i) (i := j) (by omega)
    rw [nd_row (by omega)] at g2
    exact ⟨get_row (rowN_get (by omega)), g2⟩
  have hsC : Shp (matF a.length a.length (critF (matF a.length a.length (shF a r.Den r.Num)) S a)) a.length := shp_of (by omega) (by omega)
  have hlC := matF_len a.length a.length (critF (matF a.length a.length (shF a r.Den r.Num)) S a)
  generalize matF a.length a.length (critF (matF a.length a.length (shF a r.Den r.Num)) S a) = C at *
  obtain ⟨rr, k1, k2, k3⟩ := components_both (a := C) (by rw [hlC]; exact hsC)
  rw [hlC] at k1 k2 k3
  refine ⟨rr, k3, ?_, ?_⟩
  · -- the program's road
    let p : List Int → Bool := fun x => (x.length == 1) && (entA C (x.headD 0).toNat (x.headD 0).toNat == -1000000000000000)
    have hd : ∀ x ∈ compsF rr a.length, ∃ v, v < a.length ∧ x.head? = some (v : Int) := fun x hx => by
      unfold compsF at hx
      obtain ⟨v, hv, rfl⟩ := List.mem_map.1 hx
      rw [List.mem_filter, List.mem_range] at hv
      exact ⟨v, hv.1, eq_of_beq hv.2⟩
    have hp : ∀ x ∈ compsF rr a.length, M.Conv (impl_criticalComponents_1 x C) (p x) := fun x hx => by
      obtain ⟨v, hv, e⟩ := hd x hx
      have e0 : x[0]? = some (v : Int) := by rw [← List.head?_eq_getElem?]; exact e
      have e1 : (x.headD 0).toNat = v := by rw [List.headD_eq_head?_getD, e]; rfl
      unfold impl_criticalComponents_1
      refine M.Conv_bind (M.Conv_idx (i := 0) e0) (M.Conv_bind (x := p x) (M.Conv_ite (fun t => M.Conv_bind (hC hv hv).1 (M.Conv_bind (hC hv hv).2 ((M.Conv_ret _).of ?_))) (fun t => (M.Conv_ret _).of ?_)) (M.Conv_ret _))
      · have t : x.length = 1 := by have := eq_of_beq t; omega
        simp only [p, e1, t]; simp
      · have t : x.length ≠ 1 := fun e => by rw [e] at t; simp at t
        simp only [p]
        rw [show (x.length == 1) = false by simpa using t]; rfl
    have hdel := del_ok (s := compsF rr a.length) (del := C) (p := p) (by have := compsF_len (r := rr) (n := a.length); omega) hp
    unfold impl_criticalComponents
    refine M.Conv_bind k2 (M.Conv_bind hdel ((M.Conv_ret _).of ?_))
    unfold compsF keepF
    rw [List.filter_map, List.filter_filter]
    congr 1
    refine List.filter_congr fun v hv => ?_
    have hv := List.mem_range.1 hv
    simp only [Function.comp]
    rw [Bool.and_comm]
    cases hh : (compF rr a.length v).head? == some (v : Int) with
    | false => rfl
    | true =>
      simp only [Bool.true_and]
      have e := eq_of_beq hh
      have e1 : ((compF rr a.length v).headD 0).toNat = v := by rw [List.headD_eq_head?_getD, e]; rfl
      have hk := hkeep k3 hv
      have ha := harcs hv hv
      unfold arcE at ha
      rw [Bool.eq_iff_iff]
      simp only [p, e1]
      rw [List.any_eq_true]
      simp only [List.mem_range]
      rw [hk]
      simp only [Bool.not_eq_true', Bool.and_eq_false_iff, beq_eq_false_iff_ne, ne_eq]
      rw [← Bool.not_eq_true (c v v), ← ha]
      by_cases q1 : (compF rr a.length v).length = 1 <;> by_cases q2 : entA C v v = -1000000000000000 <;> simp [q1, q2]
  · unfold spec_l06Components
    refine M.Conv_bind hmat (M.Conv_bind k1 (M.Conv_bind hnodes (M.Conv_bind (x := keepF rr c a.length) ?_ (M.Conv_ret _))))
    have hcl := compsF_len (r := rr) (n := a.length)
    have hkf : keepF rr c a.length = (compsF rr a.length).filter fun x => (toI (nodesC c a.length a.length)).any fun y => y == x.headD 0 := by
      unfold compsF keepF
      rw [List.filter_map, List.filter_filter]
      congr 1
      refine List.filter_congr fun v hv => ?_
      have hv := List.mem_range.1 hv
      simp only [Function.comp]
      rw [Bool.and_comm]
      cases hh : (compF rr a.length v).head? == some (v : Int) with
      | false => simp
      | true =>
        have e := eq_of_beq hh
        rw [Bool.and_true, Bool.and_true, List.headD_eq_head?_getD, e]
        rw [Bool.eq_iff_iff, List.any_eq_true (p := fun y => y == _)]
        simp only [Option.getD_some, beq_iff_eq]
        constructor
        · intro hany
          refine ⟨(v : Int), toI_mem.2 ?_, rfl⟩
          unfold nodesC
          rw [List.mem_filter, List.mem_range]
          exact ⟨hv, hany⟩
        · rintro ⟨y, hy, rfl⟩
          have := toI_mem.1 hy
          unfold nodesC at this
          rw [List.mem_filter] at this
          exact this.2
    rw [hkf]
    have hd : ∀ x ∈ compsF rr a.length, ∃ v : Int, x[0]? = some v ∧ x.headD 0 = v := fun x hx => by
      unfold compsF at hx
      obtain ⟨v, hv, rfl⟩ := List.mem_map.1 hx
      rw [List.mem_filter, List.mem_range] at hv
      have e := eq_of_beq hv.2
      exact ⟨v, by rw [← List.head?_eq_getElem?]; exact e, by rw [List.headD_eq_head?_getD, e]; rfl⟩
    generalize compsF rr a.length = s at *
    have hnl : (toI (nodesC c a.length a.length)).length ≤ 10 := by
      unfold nodesC
      rw [List.length_map]
      have := List.length_filter_le (fun j => (List.range a.length).any (c j)) (List.range a.length)
      rw [List.length_range] at this
      omega
    generalize toI (nodesC c a.length a.length) = N at *
    have e0 : s.filter (fun x => N.any fun y => y == x.headD 0) = (s.take s.length).filter (fun x => N.any fun y => y == x.headD 0) := by rw [List.take_length]
    rw [e0]
    refine Conv_forV (n := s.length) (fun k => (s.take k).filter fun x => N.any fun y => y == x.headD 0) (by omega) fun k hk => ?_
    have e : s.take (k + 1) = s.take k ++ [s[k]] := by rw [List.take_add_one]; simp [hk]
    have hx := List.getElem?_eq_getElem hk
    obtain ⟨v, hv, hv2⟩ := hd s[k] (List.getElem_mem hk)
    have hfl := List.length_filter_le (fun x => N.any fun y => y == x.headD 0) (s.take k)
    rw [List.length_take] at hfl
    generalize s[k] = x at *
    refine M.Conv_bind (M.Conv_idx hx) (M.Conv_bind (M.Conv_idx (i := 0) hv) (M.Conv_bind (l01Has_ok (l := N) v (by omega)) (M.Conv_bind (x := (s.take (k + 1)).filter fun x => N.any fun y => y == x.headD 0) (M.Conv_ite (fun t => ?_) (fun t => ?_)) (M.Conv_ret _))))
    · refine M.Conv_bind (M.Conv_idx hx) (M.Conv_bind ((M.Conv_app (by rw [List.length_cons, List.length_nil]; omega)).of ?_) (M.Conv_ret _))
      rw [e, List.filter_append, List.filter_cons, hv2, if_pos t]; rfl
    · refine (M.Conv_ret _).of ?_
      rw [e, List.filter_append, List.filter_cons, hv2, if_neg (by rw [t]; simp)]; simp

theorem Rch.wlk {a : List (List Int)} {n j i : Nat} (hj : j < n) (h : Rch (arcE a) n j i) : ∃ k w, Wlk a n j k i w := by
  obtain ⟨k, h⟩ := h
  induction h with
  | nil k => exact ⟨0, 0, .nil hj⟩
  | step k j' i' _ hj' hi he ih =>
    obtain ⟨k', w', h'⟩ := ih
    exact ⟨k' + 1, _, .step k' j' i' w' h' hi he⟩
theorem CritP.cwalk {a : List (List Int)} (hm : Mat a a.length) {l : List Nat} {W : Int} {r : TRatio} {S : List (List Int)} (h : CritP a l W r S) {v : Nat} :
    ∀ {m x : Nat} {w1 : Int}, Wlk (matF a.length a.length (shF a r.Den r.Num)) a.length v m x w1 → ∀ {m2 : Nat} {w2 : Int}, Wlk (matF a.length a.length (shF a r.Den r.Num)) a.length x m2 v w2 → w1 + w2 = 0 → ∃ w', Wlk (matF a.length a.length (critF (matF a.length a.length (shF a r.Den r.Num)) S a)) a.length v m x w' := by
  intro m x w1 h1
  induction h1 with
  | nil hv => intro m2 w2 _ _; exact ⟨0, .nil hv⟩
  | step m y x w0 hw hx ha ih =>
    intro m2 w2 h2 hsum
    have hy := hw.lt.2
    have hrest : Wlk (matF a.length a.length (shF a r.Den r.Num)) a.length y (1 + m2) v (entA (matF a.length a.length (shF a r.Den r.Num)) x y + w2) := by
      have := Wlk.step 0 y x 0 (.nil hy) hx ha
      rw [Int.zero_add] at this
      exact Wlk.trans (k := 1) this h2
    obtain ⟨w', hw'⟩ := ih hrest (by omega)
    obtain ⟨e1, e2⟩ := h.ent hm hx hy
    have hback := h2.trans hw
    obtain ⟨c1, c2⟩ := h.st.cpl y x _ _ hback
    obtain ⟨k, hk⟩ := (h.st.snd y x hy hx).resolve_left c1
    have hcl := h.np.closed (Wlk.step k y x _ hk hx ha)
    exact ⟨_, .step _ _ _ _ hw' hx ((h.arc hm hx hy).2 ((critB_iff e1 e2).2 ⟨ha, c1, by omega⟩))⟩
theorem CritP.there {a : List (List Int)} (hm : Mat a a.length) {l : List Nat} {W : Int} {r : TRatio} {S : List (List Int)} (h : CritP a l W r S) {v : Nat} :
    ∀ {m x : Nat} {w' : Int}, Wlk (matF a.length a.length (critF (matF a.length a.length (shF a r.Den r.Num)) S a)) a.length v m x w' → ∃ w1 m2, Wlk (matF a.length a.length (shF a r.Den r.Num)) a.length v m x w1 ∧ Wlk (matF a.length a.length (shF a r.Den r.Num)) a.length x m2 v (-w1) := by
  intro m x w' hw
  induction hw with
  | nil hv => exact ⟨0, 0, .nil hv, by simpa using Wlk.nil hv⟩
  | step m y x w0 hw hx ha ih =>
    have hy := hw.lt.2
    obtain ⟨w1, m2, f1, f2⟩ := ih
    obtain ⟨e1, e2⟩ := h.ent hm hx hy
    obtain ⟨q1, q2, q3⟩ := (critB_iff e1 e2).1 ((h.arc hm hx hy).1 ha)
    obtain ⟨k, hk⟩ := (h.st.snd y x hy hx).resolve_left q2
    refine ⟨_, k + m2, .step _ _ _ _ f1 hx q1, ?_⟩
    have := hk.trans f2
    rw [show entA S y x + -w1 = -(w1 + entA (matF a.length a.length (shF a r.Den r.Num)) x y) by omega] at this
    exact this
theorem NoPos.le0 {a : List (List Int)} {n : Nat} (hp : NoPos a n) {j k : Nat} {w : Int} (h : Wlk a n j k j w) : w ≤ 0 := by
  cases k with
  | zero => cases h; omega
  | succ k => exact hp.closed h
/-- closed critical walks are the closed walks of weight 0 -/
theorem CritP.closed {a : List (List Int)} (hm : Mat a a.length) {l : List Nat} {W : Int} {r : TRatio} {S : List (List Int)} (h : CritP a l W r S) {v m : Nat} :
    (∃ w, Wlk (matF a.length a.length (critF (matF a.length a.length (shF a r.Den r.Num)) S a)) a.length v m v w) ↔ Wlk (matF a.length a.length (shF a r.Den r.Num)) a.length v m v 0 := by
  constructor
  · rintro ⟨w, hw⟩
    obtain ⟨w1, m2, f1, f2⟩ := h.there hm hw
    have := h.np.le0 f1
    have := h.np.le0 f2
    have : w1 = 0 := by omega
    rw [this] at f1; exact f1
  · exact fun hw => h.cwalk hm hw (.nil hw.lt.1) (by omega)
section
variable {a : List (List Int)} {l : List Nat} {W : Int} {r : TRatio} {S : List (List Int)}
/-- closed walks of weight 0 at v -/
def Zw (a : List (List Int)) (r : TRatio) (v m : Nat) : Prop := Wlk (matF a.length a.length (shF a r.Den r.Num)) a.length v m v 0
end

theorem entA_in {a : List (List Int)} (h : MatS a) (i j : Nat) : inI64 (entA a i j) := by
  unfold entA
  cases e : a[i]? with
  | none => simp [inI64]
  | some r =>
    simp only [Option.getD_some]
    cases e2 : r[j]? with
    | none => simp [inI64]
    | some x => exact (h.row r (List.mem_of_getElem? e)).2 x (List.mem_of_getElem? e2)
theorem draw4_ok {code : List Int} (hc : ByC code) {s : TL01source} (hs : Src code s) : M.TC (spec_l04Draw s) (fun r => MatS r.1 ∧ Src code r.2) := by
  unfold spec_l04Draw
  rw [hs.code_]
  refine M.TC_bind (drawSquare_ok hc hs) fun x hx => M.TC_bind (next_ok hc (hx.2.mk' rfl) 30 (by omega)) fun y hy => M.TC_ite (fun _ => ?_) (fun _ => M.TC_ret ⟨hx.1, hy.1.mk' rfl⟩)
  refine M.TC_bind (pick_ok hc (hy.1.mk' rfl) _ (by simp) (by simp) inI64 (by simp [inI64])) fun z hz => M.TC_bind (pick_ok hc (hz.1.mk' rfl) _ (by simp) (by simp) inI64 (by simp [inI64])) fun q hq => M.TC_ret ⟨⟨by simp, fun r hr => ?_⟩, hq.1.mk' rfl⟩
  simp only [List.mem_cons, List.not_mem_nil, or_false] at hr
  rcases hr with rfl | rfl
  · exact ⟨by simp, fun v hv => by
      simp only [List.mem_cons, List.not_mem_nil, or_false] at hv
      rcases hv with rfl | rfl
      · simp [inI64]
      · exact hz.2⟩
  · exact ⟨by simp, fun v hv => by
      simp only [List.mem_cons, List.not_mem_nil, or_false] at hv
      rcases hv with rfl | rfl
      · exact hq.2
      · simp [inI64]⟩
theorem draw6_ok {code : List Int} (hc : ByC code) {s : TL01source} (hs : Src code s) : M.TC (spec_l06Draw s) (fun r => MatS r.1 ∧ Src code r.2) := by
  unfold spec_l06Draw
  rw [hs.code_]
  refine M.TC_bind (draw4_ok hc hs) fun x hx => ?_
  obtain ⟨hm, hx⟩ := hx
  refine M.TC_bind (Mid := fun (r : Int × Int × Bool) => Src code ⟨code, r.1, r.2.1⟩ ∧ (r.2.2 = false → sqB x.1 = true)) (M.TC_bindC (spec_l02Square_ok hm.sm) (M.TC_ite (fun _ => M.TC_ret ⟨hx.mk' rfl, fun t => by cases t⟩) (fun t => M.TC_bind (next_ok hc (hx.mk' rfl) 3 (by omega)) fun y hy => M.TC_ret ⟨hy.1.mk' rfl, fun _ => by simpa using t⟩))) fun r hr => ?_
  obtain ⟨h1, h2⟩ := hr
  refine M.TC_ite (fun _ => M.TC_ret ⟨hm, h1⟩) (fun t => ?_)
  have hq := h2 t
  have hM := sq_mat hq
  have hrows := hM.rows
  generalize hn : x.1.length = n at *
  have hx1 : x.1 = matF n n (entA x.1) := by
    have := mat_eq hM.shp
    rw [hn] at this; exact this
  refine M.TC_bind (M.TC_forN (fun i (s : Int × Int × List Int) => Src code ⟨code, s.1, s.2.1⟩ ∧ s.2.2.length = i) (by omega) ⟨h1, rfl⟩ (fun i s hi hI => M.TC_bind (next_ok hc hI.1 6 (by omega)) fun z hz => M.TC_bindC (M.Conv_app (by simp; have := hI.2; omega)) (M.TC_ret ⟨_, rfl, hz.1.mk' rfl, by simp [hI.2]⟩))) fun s4 hs4 => ?_
  obtain ⟨h3, h4⟩ := hs4
  refine M.TC_bind (next_ok hc h3 7 (by omega)) fun u hu => ?_
  refine M.TC_bind (M.TC_forN (fun _ (r : Int × Int × List (List Int)) => Src code ⟨code, r.1, r.2.1⟩ ∧ ∃ f, r.2.2 = matF n n f ∧ ∀ i j, inI64 (f i j)) (by omega) ⟨hu.1.mk' rfl, _, hx1, entA_in hm⟩ (fun i r hi hI => ?_)) fun r hr => ?_
  · refine M.TC_bind (M.TC_forN (fun _ (r : Int × Int × List (List Int)) => Src code ⟨code, r.1, r.2.1⟩ ∧ ∃ f, r.2.2 = matF n n f ∧ ∀ i j, inI64 (f i j)) (by omega) hI (fun j r hj hI => ?_)) fun r hr => M.TC_ret ⟨_, rfl, hr⟩
    obtain ⟨hsr, f, hf, hfi⟩ := hI
    rw [hf]
    have r1 : M.Conv (M.idx (matF n n f) (i : Int)) (tab n (f i)) := idx_tab hi
    have r2 : M.Conv (M.idx (tab n (f i)) (j : Int)) (f i j) := idx_tab hj
    refine M.TC_bindC r1 (M.TC_bindC r2 (M.TC_bindC (spec_l01Finite_ok _) ?_))
    refine M.TC_bind (Mid := fun _ => True) (M.TC_ite (fun _ => M.TC_bindC r1 (M.TC_bindC r2 (M.TC_bindC (spec_l01In_ok _ _ _) (M.TC_ret trivial)))) (fun _ => M.TC_ret trivial)) fun b _ => ?_
    refine M.TC_bind (Mid := fun (r : Int × Int × List (List Int)) => Src code ⟨code, r.1, r.2.1⟩ ∧ ∃ f, r.2.2 = matF n n f ∧ ∀ i j, inI64 (f i j)) (M.TC_ite (fun _ => ?_) (fun _ => M.TC_ret ⟨hsr, f, rfl, hfi⟩)) fun r hr => M.TC_ret ⟨_, rfl, hr⟩
    refine M.TC_bindC r1 (M.TC_bind (Mid := fun _ => True) (M.TC_idx (by omega) (by omega) fun _ _ => trivial) fun p _ => M.TC_bind (Mid := fun _ => True) (M.TC_idx (by omega) (by omega) fun _ _ => trivial) fun q _ => M.TC_bind (next_ok hc hsr 5 (by omega)) fun y hy => M.TC_bindC r2 (M.TC_bindC (M.Conv_upd (by rw [tab_len]; exact hj)) ?_))
    generalize hv : w64 (w64 (w64 (p - q) + w64 (u.1 - 2)) - mx 0 (w64 (y.1 - 2))) = v
    have hvi : inI64 v := by rw [← hv]; exact w64_bd _
    refine M.TC_ret ⟨hy.1.mk' rfl, fun p q => if p = i ∧ q = j then v else f p q, ?_, fun p q => ?_⟩
    · simp only [Int.toNat_natCast]
      have := matF_set (m := n) (n := n) (i := i) (j := j) (f := f) (g := fun p q => if p = i ∧ q = j then v else f p q) (fun p q _ _ hpq => by rw [if_neg hpq])
      simpa using this
    · simp only
      split
      · exact hvi
      · exact hfi p q
  · obtain ⟨hsr, f, hf, hfi⟩ := hr
    exact M.TC_ret ⟨by rw [hf]; exact MatS.of (by omega) (by omega) hfi, hsr⟩
theorem spec_star {a : List (List Int)} (hm : Mat a a.length) {l : List Nat} {W : Int} {r : TRatio} {S : List (List Int)} (h : CritP a l W r S) : ∃ q bb, M.Conv (spec_l04Best a) q ∧ M.Conv (spec_l04Mean a q.1) (r, true) ∧ M.Conv (spec_l04Shift a r) (matF a.length a.length (shF a r.Den r.Num)) ∧ M.Conv (spec_l03Star (matF a.length a.length (shF a r.Den r.Num))) (S, bb) := by
  have hrows := hm.rows
  have hs := hm.shp
  have hA := mat_ent hm
  obtain ⟨q, q1, q2⟩ := best_tc hm
  obtain ⟨hq, l', W', eq1, hmc⟩ := q2.resolve_left fun g => g.2 l W h.mc.wc.cl
  have hlen := hmc.wc.len
  have hb := hmc.wc.cl.bd hA
  have hmean : M.Conv (spec_l04Mean a q.1) (r, true) := by
    obtain ⟨r', r1, _, hr'⟩ := ratio_ok (x := W') (d := (l'.length : Int)) (by omega) (by omega)
    have e := hmc.same h.mc hr' h.rp
    rw [eq1, ← e]
    unfold spec_l04Mean
    exact M.Conv_bind (cycle_conv hs rfl hA hmc.wc) (M.Conv_ite (fun t => by cases t) (fun _ => M.Conv_bind (x := r') (by rw [List.length_map]; exact r1) (M.Conv_ret _)))
  have hbs : Shp (matF a.length a.length (shF a r.Den r.Num)) a.length := shp_of (by omega) (by omega)
  obtain ⟨S', bb, s1, s2⟩ := star_pow hbs (matF_len _ _ _) h.sh.bd (by omega) (by omega)
  have := (s2.star h.np).unique h.st
  rw [this] at s1
  exact ⟨q, bb, q1, hmean, shift_conv hs rfl h.sh, s1⟩
/-- column v of S -/
def colT (S : List (List Int)) (n v : Nat) : List Int := tab n fun i => entA S i v
theorem starColumn_ok {a : List (List Int)} (hm : Mat a a.length) {l : List Nat} {W : Int} {r : TRatio} {S : List (List Int)} (h : CritP a l W r S) {v : Nat} (hv : v < a.length) : M.Conv (impl_starColumn a r (v : Int)) (colT S a.length v) := by
  have hrows := hm.rows
  have hbs : Shp (matF a.length a.length (shF a r.Den r.Num)) a.length := shp_of (by omega) (by omega)
  obtain ⟨S', s1, s2⟩ := starOf_ok hbs (matF_len _ _ _) h.sh.bd (by omega) (by omega) h.np
  have := s2.unique h.st
  subst this
  unfold impl_starColumn
  refine M.Conv_bind (shiftedI_ok hm.shp rfl h.sh) (M.Conv_bind s1 (M.Conv_bind (impl_transposed_ok s2.shp) (M.Conv_bind (show M.Conv _ (colT S' a.length v) from (idx_tab hv).of ?_) (M.Conv_ret _))))
  unfold colT
  rw [s2.len]
/-- column v of the star is an eigenvector where v is critical -/
theorem CritP.eig {a : List (List Int)} (hm : Mat a a.length) {l : List Nat} {W : Int} {r : TRatio} {S : List (List Int)} (h : CritP a l W r S) {v m i : Nat} (hz : Zw a r v (m + 1)) (hi : i < a.length) {s : Int} (hd : DotP (entA (matF a.length a.length (shF a r.Den r.Num)) i) (fun j => entA S j v) a.length s) : s = entA S i v := by
  have hv := hz.lt.1
  have key : entA S i v ≠ -1000000000000000 → ∃ y, y < a.length ∧ entA (matF a.length a.length (shF a r.Den r.Num)) i y ≠ -1000000000000000 ∧ entA S y v ≠ -1000000000000000 ∧ entA S i v ≤ entA (matF a.length a.length (shF a r.Den r.Num)) i y + entA S y v := fun e => by
    obtain ⟨k, hk⟩ := (h.st.snd i v hi hv).resolve_left e
    have last : ∀ {k : Nat} {w : Int}, Wlk (matF a.length a.length (shF a r.Den r.Num)) a.length v (k + 1) i w → ∃ y, y < a.length ∧ entA (matF a.length a.length (shF a r.Den r.Num)) i y ≠ -1000000000000000 ∧ entA S y v ≠ -1000000000000000 ∧ w ≤ entA (matF a.length a.length (shF a r.Den r.Num)) i y + entA S y v := fun {k w} hw => by
      cases hw with
      | step _ y _ w0 hw0 _ ha =>
        have c := h.st.cpl y v k w0 hw0
        exact ⟨y, hw0.lt.2, ha, c.1, by omega⟩
    cases k with
    | succ k => exact last hk
    | zero =>
      generalize entA S i v = x at hk
      cases hk with
      | nil _ => exact last hz
  rcases hd.on with e | ⟨j, hj, h1, h2, e⟩
  · by_cases hf : entA S i v = -1000000000000000
    · rw [e, hf]
    · exfalso
      obtain ⟨y, hy, y1, y2, y3⟩ := key hf
      have := hd.up y hy y1 y2
      obtain ⟨e1, _⟩ := h.ent hm hi hy
      obtain ⟨_, e2⟩ := h.ent hm hv hy
      (try simp only at this)
      omega
  · obtain ⟨k, hk⟩ := (h.st.snd j v hj hv).resolve_left h2
    have c := h.st.cpl i v (k + 1) _ (Wlk.step k j i _ hk hi h1)
    obtain ⟨y, hy, y1, y2, y3⟩ := key c.1
    have := hd.up y hy y1 y2
    (try simp only at this c e)
    omega

def keepN (rr : Nat → Nat → Bool) (c : Nat → Nat → Bool) (n : Nat) : List Nat := (List.range n).filter fun v => ((compF rr n v).head? == some (v : Int)) && (List.range n).any (c v)
theorem keepN_mem {rr c : Nat → Nat → Bool} {n v : Nat} (h : v ∈ keepN rr c n) : v < n ∧ (compF rr n v).head? = some (v : Int) ∧ ∃ i, i < n ∧ c v i = true := by
  unfold keepN at h
  rw [List.mem_filter, List.mem_range, Bool.and_eq_true, List.any_eq_true] at h
  obtain ⟨h1, h2, i, hi, hc⟩ := h
  exact ⟨h1, eq_of_beq h2, i, List.mem_range.1 hi, hc⟩
theorem keepN_len {rr c : Nat → Nat → Bool} {n : Nat} : (keepN rr c n).length ≤ n := by
  unfold keepN
  exact Nat.le_trans (List.length_filter_le _ _) (by simp)
theorem checkedMatrix_okL {a : List (List Int)} (hl : a.length ≤ 1000000) (hr : ∀ r ∈ a, r.length ≤ 1000000) : M.Conv (impl_checkedMatrix a) (bif (a.all fun r => r.all valB) then (a, 0) else ([], 3)) := by
  refine M.Conv_bind (contains_ok (fun r => !(r.all valB)) (by omega) fun i r hr' => ?_) ?_
  · have hl := hr r (List.mem_of_getElem? hr')
    refine M.Conv_bind (get_row hr') (M.Conv_bind (M.Conv_bind (impl_areValues_ok (by omega)) (M.Conv_ret _)) ?_)
    cases (!(r.all valB)) <;> exact M.Conv_ret _
  · have e : (a.any fun r => !(r.all valB)) = !(a.all fun r => r.all valB) := by rw [← any_not, Bool.not_not]
    rw [e]
    cases (a.all fun r => r.all valB)
    · exact M.Conv_ite (fun _ => M.Conv_ret _) (fun t => by simp at t)
    · exact M.Conv_ite (fun t => by simp at t) (fun _ => M.Conv_ret _)
def stF (a : List (List Int)) (D : Int) (i j : Nat) : Int := if entA a i j = -1000000000000000 then -1000000000000000 else D * entA a i j
theorem stretched_ok {a : List (List Int)} {n : Nat} (hs : Shp a n) (al : a.length = n) {r : TRatio} (hsh : Sh a n r.Den r.Num) : M.Conv (impl_stretched a r.Den) (matF n n (stF a r.Den)) := by
  have hn := hs.cols
  unfold impl_stretched
  rw [al]
  refine M.Conv_bind ?_ (M.Conv_ret _)
  refine matrixBy_ok (fun i j => impl_stretched_1 i j a r.Den) _ (by omega) (by omega) fun i j hi hj => ?_
  have hrl := hs.row _ (List.mem_of_getElem? (rowN_get (a := a) (i := i) (by omega)))
  have g1 : M.Conv (M.idx a (i : Int)) (rowN a i) := get_row (rowN_get (by omega))
  have g2 := nd_read (l := rowN a i) (i := j) (by omega)
  rw [nd_row (by omega)] at g2
  have hv := hsh.val hi hj
  have hW := hsh.hW
  refine M.Conv_bind g1 (M.Conv_bind g2 (M.Conv_ite (fun t => (M.Conv_ret _).of ?_) (fun t => M.Conv_bind g1 (M.Conv_bind g2 ((M.Conv_ret _).of ?_)))))
  · unfold stF; rw [if_pos (eq_of_beq t)]
  · have t : entA a i j ≠ -1000000000000000 := by simpa using t
    have hv := hv.resolve_left fun h => t h.1
    unfold stF
    rw [if_neg t, w64_eq _ (by omega)]
theorem CritP.dot {a : List (List Int)} (hm : Mat a a.length) {l : List Nat} {W : Int} {r : TRatio} {S : List (List Int)} (h : CritP a l W r S) {v m i : Nat} (hz : Zw a r v (m + 1)) (hi : i < a.length) : dotL (colT S a.length v) (tab a.length (stF a r.Den i)) = timesI (entA S i v) r.Num := by
  have hrows := hm.rows
  have hv := hz.lt.1
  have hW := h.sh.hW
  have val : ∀ j, j < a.length → (stF a r.Den i j = -1000000000000000 ∧ entA (matF a.length a.length (shF a r.Den r.Num)) i j = -1000000000000000) ∨ (stF a r.Den i j = entA (matF a.length a.length (shF a r.Den r.Num)) i j + r.Num ∧ -20000000 ≤ entA (matF a.length a.length (shF a r.Den r.Num)) i j ∧ entA (matF a.length a.length (shF a r.Den r.Num)) i j ≤ 20000000) := fun j hj => by
    unfold stF
    rcases h.sh.val hi hj with ⟨e1, e2⟩ | ⟨e1, e2, e3, e4⟩
    · exact .inl ⟨if_pos e1, e2⟩
    · right; rw [if_neg e1]; omega
  have bS : ∀ j, j < a.length → entA S j v = -1000000000000000 ∨ (-200000000 ≤ entA S j v ∧ entA S j v ≤ 200000000) := fun j hj => (h.ent hm hv hj).2
  have nr : ∀ j, j < a.length → nd (tab a.length (stF a r.Den i)) j = stF a r.Den i j := fun j hj => nd_of (tab_get hj)
  have nx : ∀ j, j < a.length → nd (colT S a.length v) j = entA S j v := fun j hj => nd_of (tab_get hj)
  have key := dotL_ok2 (x := colT S a.length v) (row := tab a.length (stF a r.Den i)) (B := 400000000) (by unfold colT; rw [tab_len, tab_len]) (by omega) (fun j hj => by
    rw [tab_len] at hj
    rw [nr j hj]
    have := val j hj
    unfold Bd; omega) (fun j hj => by
    rw [tab_len] at hj
    rw [nx j hj]
    have := bS j hj
    unfold Bd; omega)
  rw [tab_len] at key
  generalize dotL (colT S a.length v) (tab a.length (stF a r.Den i)) = s at key
  rcases key.on with e | ⟨j, hj, h1, h2, e⟩
  · have : -1000000000000000 = entA S i v := h.eig hm hz hi ⟨fun j hj q1 q2 => by
      exfalso
      have q2 : entA S j v ≠ -1000000000000000 := q2
      have v1 := (val j hj).resolve_left fun q => q1 q.2
      have := key.up j hj (by rw [nr j hj]; omega) (by rw [nx j hj]; exact q2)
      rw [nr j hj, nx j hj] at this
      have := bS j hj
      omega, .inl rfl⟩
    rw [e, ← this]; rfl
  · rw [nr j hj] at h1 e
    rw [nx j hj] at h2 e
    have : s - r.Num = entA S i v := h.eig hm hz hi ⟨fun j hj q1 q2 => by
      have q2 : entA S j v ≠ -1000000000000000 := q2
      have v1 := (val j hj).resolve_left fun q => q1 q.2
      have := key.up j hj (by rw [nr j hj]; omega) (by rw [nx j hj]; exact q2)
      rw [nr j hj, nx j hj] at this
      (try simp only); omega, .inr ⟨j, hj, by have := (val j hj).resolve_left fun q => h1 q.1; omega, h2, by have := (val j hj).resolve_left fun q => h1 q.1; (try simp only); omega⟩⟩
    have v1 := (val j hj).resolve_left fun q => h1 q.1
    have b1 := (bS j hj).resolve_left h2
    unfold timesI
    rw [show (entA S i v == (-1000000000000000)) = false by simp; omega, show (r.Num == (-1000000000000000)) = false by simp; omega]
    simp only [Bool.or_self, cond_false]
    rw [w64_eq _ (by omega)]; omega
theorem eigen_ok {a : List (List Int)} (sa : smII a) (hq : sqB a = true) {l : List Nat} {W : Int} {r : TRatio} {S : List (List Int)} (h : CritP a l W r S) {v m : Nat} (hz : Zw a r v (m + 1)) (hr : M.Conv (impl_IsRatio r) true) (hval : (colT S a.length v).all valB = true) : M.Conv (impl_IsEigenVector a r (colT S a.length v)) true := by
  have hm := sq_mat hq
  have hrows := hm.rows
  have hv := hz.lt.1
  have hl : (colT S a.length v).length = a.length := tab_len _ _
  have hasked : M.Conv (impl_isEigenAsked a r (colT S a.length v)) true := by
    unfold impl_isEigenAsked
    have hvec : vecB (colT S a.length v) = true := by
      unfold vecB
      rw [hval, hl, decide_eq_true hrows.1, decide_eq_true hrows.2]; rfl
    refine M.Conv_bind (impl_isSquare_ok sa) (M.Conv_bind (x := true) (M.Conv_ite (fun _ => M.Conv_bind hr (M.Conv_ret _)) (fun t => by rw [hq] at t; cases t)) (M.Conv_bind (x := true) (M.Conv_ite (fun _ => M.Conv_bind (impl_isVector_ok (by omega)) ((M.Conv_ret _).of hvec)) (fun t => by cases t)) (M.Conv_bind (x := true) (M.Conv_ite (fun _ => M.Conv_bind (impl_sumOf_ok (by omega)) ((M.Conv_ret _).of ?_)) (fun t => by rw [hl] at t; simp at t)) (M.Conv_ret _))))
    rw [maxL_ne hval, List.any_eq_true]
    have hz0 := h.st.cpl v v 0 0 (.nil hv)
    exact ⟨entA S v v, List.mem_map.2 ⟨v, List.mem_range.2 hv, rfl⟩, by simpa using hz0.1⟩
  have hst : Shp (matF a.length a.length (stF a r.Den)) a.length := shp_of (by omega) (by omega)
  unfold impl_IsEigenVector
  refine M.Conv_bind hasked (M.Conv_ite (fun t => by cases t) (fun _ => M.Conv_bind (stretched_ok hm.shp rfl h.sh) (M.Conv_bind (impl_timesVector_okS hst hl) ?_)))
  have hlm : ((matF a.length a.length (stF a r.Den)).map (dotL (colT S a.length v))).length = a.length := by rw [List.length_map, matF_len]
  rw [hlm]
  apply M.TC.conv
  refine M.TC_bind (M.TC_forE (n := a.length) (fun _ (_ : Unit) => True) (fun (_ : Bool) => False) (by omega) trivial (fun i s hi _ => ?_)) (fun y hy => ?_)
  · have e1 : M.Conv (M.idx ((matF a.length a.length (stF a r.Den)).map (dotL (colT S a.length v))) (i : Int)) (timesI (entA S i v) r.Num) := M.Conv_idx (by
      rw [List.getElem?_map, show (matF a.length a.length (stF a r.Den))[i]? = some (tab a.length (stF a r.Den i)) from tab_get hi, Option.map_some, h.dot hm hz hi])
    have e2 : M.Conv (M.idx (colT S a.length v) (i : Int)) (entA S i v) := idx_tab hi
    exact M.TC_bindC e1 (M.TC_bindC e2 (M.TC_bindC (impl_times_ok _ _) (M.TC_ite (fun t => by simp at t) (fun _ => M.TC_ret (.inl ⟨(), rfl, trivial⟩)))))
  · rcases hy with ⟨s, rfl, _⟩ | ⟨r, _, hf⟩
    · exact M.TC_ret rfl
    · exact hf.elim

theorem CritP.zw {a : List (List Int)} (hm : Mat a a.length) {l : List Nat} {W : Int} {r : TRatio} {S : List (List Int)} (h : CritP a l W r S) {v i : Nat} (hv : v < a.length) (hi : i < a.length) (hcc : critB (matF a.length a.length (shF a r.Den r.Num)) S v i = true) : ∃ k, Zw a r v (k + 1) := by
  obtain ⟨kk, w0, hwk⟩ := (h.back hm hi hv hcc).wlk hi
  have hcl := (Wlk.step 0 v i 0 (.nil hv) hi ((h.arc hm hi hv).2 hcc)).trans hwk
  have := (h.closed hm).1 ⟨_, hcl⟩
  rw [show 0 + 1 + kk = kk + 1 by omega] at this
  exact ⟨kk, this⟩
theorem columns_Two (a : List (List Int)) (sa : smII a) : Two (spec_EigenColumns a) (impl_EigenColumns a) (fun w => smII w.1 ∧ (w.2 = 0 → sqB a = true ∧ ∃ l W r S rr, CritP a l W r S ∧ w.1 = (keepN rr (critB (matF a.length a.length (shF a r.Den r.Num)) S) a.length).map (colT S a.length) ∧ (∀ x ∈ w.1, x.all valB = true) ∧ M.Conv (impl_CriticalComponents a) (keepF rr (critB (matF a.length a.length (shF a r.Den r.Num)) S) a.length, 0))) := by
  by_cases hq : sqB a = true
  · have hm := sq_mat hq
    have hrows := hm.rows
    obtain ⟨w, c1, c2⟩ := critical_both sa hq
    rcases c2 with ⟨hw, _, c2⟩ | ⟨hw, c2, c3, l, W, r, S, hC, ew, c4⟩
    · refine ⟨([], 4), M.Conv_bind c2 (M.Conv_ite (fun _ => M.Conv_ret _) (fun t => by cases t)), M.Conv_bind c1 (M.Conv_ite (fun _ => (M.Conv_ret _).of (by rw [hw])) (fun t => by rw [hw] at t; cases t)), ⟨by simp, by simp⟩, fun t => by cases t⟩
    · obtain ⟨rr, k1, k2, k3⟩ := lcomps_both hm hC (ew ▸ c3) c4
      obtain ⟨q, bb, b1, b2, b3, b4⟩ := spec_star hm hC
      obtain ⟨x, x1, x2⟩ := cycleMean_tc hm
      obtain ⟨_, l', W', hmc', hr'⟩ := x2.resolve_left fun g => g.2 _ _ hC.mc.wc.cl
      have er : x.1 = r := hmc'.same hC.mc hr' hC.rp
      have hK := fun {v : Nat} => keepN_mem (rr := rr) (c := critB (matF a.length a.length (shF a r.Den r.Num)) S) (n := a.length) (v := v)
      have hKl := keepN_len (rr := rr) (c := critB (matF a.length a.length (shF a r.Den r.Num)) S) (n := a.length)
      have hkf : keepF rr (critB (matF a.length a.length (shF a r.Den r.Num)) S) a.length = (keepN rr (critB (matF a.length a.length (shF a r.Den r.Num)) S) a.length).map (compF rr a.length) := rfl
      have hcomp : M.Conv (impl_CriticalComponents a) (keepF rr (critB (matF a.length a.length (shF a r.Den r.Num)) S) a.length, 0) := by
        unfold impl_CriticalComponents
        exact M.Conv_bind c1 (M.Conv_ite (fun t => by rw [hw] at t; cases t) (fun _ => M.Conv_bind (by rw [ew]; exact k2) (M.Conv_ret _)))
      rw [hkf] at k2 k3
      generalize hKe : keepN rr (critB (matF a.length a.length (shF a r.Den r.Num)) S) a.length = K at *
      have hcl : ∀ v, (colT S a.length v).length = a.length := fun v => tab_len _ _
      have read : ∀ i, i < K.length → ∃ v, K[i]? = some v ∧ v < a.length ∧ M.Conv (M.idx (K.map (compF rr a.length)) (i : Int)) (compF rr a.length v) ∧ M.Conv (M.idx (compF rr a.length v) 0) (v : Int) := fun i hi => by
        have hg := List.getElem?_eq_getElem hi
        obtain ⟨h1, h2, _⟩ := hK (List.getElem_mem hi)
        generalize K[i] = v at hg h1 h2
        refine ⟨v, hg, h1, M.Conv_idx (by rw [List.getElem?_map, hg]; rfl), M.Conv_idx (i := 0) ?_⟩
        rw [← List.head?_eq_getElem?]; exact h2
      have impl : M.Conv (impl_EigenColumns a) (bif ((K.map (colT S a.length)).all fun r => r.all valB) then (K.map (colT S a.length), 0) else ([], 3)) := by
        unfold impl_EigenColumns
        refine M.Conv_bind c1 (M.Conv_ite (fun t => by rw [hw] at t; cases t) (fun _ => M.Conv_bind x1 (M.Conv_bind (by rw [ew]; exact k2) (M.Conv_bind (x := K.map (colT S a.length)) ?_ (M.Conv_bind (checkedMatrix_okL (by rw [List.length_map]; omega) fun r hr => ?_) ((M.Conv_ret _).of ?_))))))
        · have := Conv_forV (n := K.length) (f := fun i1 => (fun (s1 : (List (List Int))) => M.bind (M.idx (K.map (compF rr a.length)) i1) (fun x5 => M.bind (M.idx x5 0) (fun x6 => M.bind (impl_starColumn a x.1 x6) (fun x7 => M.bind (M.app s1 [x7]) (fun l1 => M.ret (.inl l1))))))) (fun k => (K.take k).map (colT S a.length)) (by omega) (fun i hi => by
            obtain ⟨v, g0, g1, g2, g3⟩ := read i hi
            refine M.Conv_bind g2 (M.Conv_bind g3 (M.Conv_bind (by rw [er]; exact starColumn_ok hm hC g1) (M.Conv_bind (M.Conv_app (by simp; omega)) ((M.Conv_ret _).of ?_))))
            rw [List.take_add_one, g0]; simp)
          rw [List.take_length] at this
          rw [List.length_map]
          exact this
        · obtain ⟨v, _, rfl⟩ := List.mem_map.1 hr
          rw [hcl]; omega
        · cases ((K.map (colT S a.length)).all fun r => r.all valB) <;> rfl
      have spec : M.TC ((M.forI 0 ((K.map (compF rr a.length)).length : Int) (fun s => .inl s) (fun i1 => (fun (s1 : (List (List Int))) => M.bind (M.idx (K.map (compF rr a.length)) i1) (fun x9 => M.bind (M.idx x9 0) (fun x10 => M.bind (M.idx (matF a.length S.length fun i j => entA S j i) x10) (fun x11 => M.bind (spec_l02Vector x11) (fun x12 => M.ite (!x12) (M.ret (.inr (.inr (([] : List (List Int)), 3)))) (M.bind (spec_l01Own x11) (fun x13 => M.bind (M.app s1 [x13]) (fun l1 => M.ret (.inl l1)))))))))) ([] : List (List Int))) : M ((List (List Int)) ⊕ ((List (List Int)) × Int)))
          (fun y => (∃ s', y = .inl s' ∧ s' = (K.take K.length).map (colT S a.length) ∧ ∀ v ∈ K.take K.length, (colT S a.length v).all valB = true) ∨ ∃ r : List (List Int) × Int, y = .inr r ∧ (r = ([], 3) ∧ ∃ v ∈ K, (colT S a.length v).all valB = false)) := by
        rw [List.length_map]
        refine M.TC_forE (fun k s => s = (K.take k).map (colT S a.length) ∧ ∀ v ∈ K.take k, (colT S a.length v).all valB = true) (fun r => r = ([], 3) ∧ ∃ v ∈ K, (colT S a.length v).all valB = false) (by omega) ⟨by simp, by simp⟩ (fun i s hi hI => ?_)
        obtain ⟨v, g0, g1, g2, g3⟩ := read i hi
        obtain ⟨rfl, i2⟩ := hI
        have hvm := List.mem_of_getElem? g0
        have g4 : M.Conv (M.idx (matF a.length S.length fun i j => entA S j i) (v : Int)) (colT S a.length v) := (idx_tab g1).of (by rw [hC.st.len]; rfl)
        have hvb : vecB (colT S a.length v) = (colT S a.length v).all valB := by
          unfold vecB
          rw [hcl, decide_eq_true hrows.1, decide_eq_true hrows.2]; simp
        refine M.TC_bindC g2 (M.TC_bindC g3 (M.TC_bindC g4 (M.TC_bindC (spec_l02Vector_ok (by rw [hcl]; omega)) ?_)))
        rw [hvb]
        refine M.TC_ite (fun t => M.TC_ret (.inr ⟨_, rfl, rfl, v, hvm, by simpa using t⟩)) (fun t => M.TC_bindC (spec_l01Own_ok (by unfold smI; rw [hcl]; omega)) (M.TC_bindC (M.Conv_app (by simp; omega)) (M.TC_ret (.inl ⟨_, rfl, ?_, fun u hu => ?_⟩))))
        · rw [List.take_add_one, g0]; simp
        · rw [List.take_add_one, g0] at hu
          simp only [Option.toList_some, List.mem_append, List.mem_singleton] at hu
          rcases hu with hu | rfl
          · exact i2 u hu
          · simpa using t
      obtain ⟨y, y1, y2⟩ := spec
      have spec2 : ∀ z : List (List Int) × Int, (y = .inl z.1 ∧ z.2 = 0) ∨ y = .inr z → M.Conv (spec_EigenColumns a) z := fun z hz => by
        unfold spec_EigenColumns
        refine M.Conv_bind c2 (M.Conv_ite (fun t => by cases t) (fun _ => M.Conv_bind b1 (M.Conv_bind b2 (M.Conv_bind b3 (M.Conv_bind b4 (M.Conv_bind (spec_l02Turn_ok hC.st.shp) (M.Conv_bind k3 (M.Conv_bind y1 ?_))))))))
        rcases hz with ⟨e, e2⟩ | e
        · rw [e]; exact (M.Conv_ret _).of (by rw [← e2])
        · rw [e]; exact M.Conv_ret _
      rcases y2 with ⟨s, rfl, rfl, hall⟩ | ⟨z, rfl, rfl, v, hv, hbad⟩
      · rw [List.take_length] at hall
        have hall' : ((K.map (colT S a.length)).all fun r => r.all valB) = true := by
          rw [List.all_eq_true]
          intro x hx
          obtain ⟨v, hv, rfl⟩ := List.mem_map.1 hx
          exact hall v hv
        rw [hall'] at impl
        refine ⟨_, spec2 _ (.inl ⟨by rw [List.take_length]; rfl, rfl⟩), impl, ⟨by simp; omega, fun x hx => ?_⟩, fun _ => ⟨hq, l, W, r, S, rr, hC, (by rw [hKe]; rfl), fun x hx => ?_, hcomp⟩⟩
        · obtain ⟨v, _, rfl⟩ := List.mem_map.1 hx
          rw [hcl]; omega
        · exact List.all_eq_true.1 hall' x hx
      · have hno : ((K.map (colT S a.length)).all fun r => r.all valB) = false := by
          rw [Bool.eq_false_iff]
          intro ht
          have := List.all_eq_true.1 ht _ (List.mem_map.2 ⟨v, hv, rfl⟩)
          rw [hbad] at this; cases this
        rw [hno] at impl
        exact ⟨_, spec2 _ (.inr rfl), impl, ⟨by simp, by simp⟩, fun t => by cases t⟩
  · have hq' : sqB a = false := by simpa using hq
    refine ⟨([], 1), ?_, ?_, ⟨by simp, by simp⟩, fun t => by cases t⟩
    · unfold spec_EigenColumns spec_l06Code
      exact M.Conv_bind (M.Conv_bind (spec_l02Square_ok sa) (M.Conv_ite (fun _ => M.Conv_ret _) (fun t => by rw [hq'] at t; cases t))) (M.Conv_ite (fun _ => M.Conv_ret _) (fun t => by cases t))
    · unfold impl_EigenColumns impl_criticalOf
      exact M.Conv_bind (M.Conv_bind (impl_isSquare_ok sa) (M.Conv_ite (fun _ => M.Conv_ret _) (fun t => by rw [hq'] at t; cases t))) (M.Conv_ite (fun _ => M.Conv_ret _) (fun t => by cases t))
theorem CycleMean_tc2 {a : List (List Int)} (sa : smII a) (hs : sqB a = true) : M.TC (impl_CycleMean a) (fun w => w.2 ≠ 0 ∨ (w.2 = 0 ∧ M.Conv (impl_IsRatio w.1) true ∧ ∃ l W, MaxC a a.length l W ∧ RatP W (l.length : Int) w.1)) := by
  have hm := sq_mat hs
  unfold impl_CycleMean
  refine M.TC_bindC (impl_isSquare_ok sa) (M.TC_ite (fun t => by rw [hs] at t; cases t) (fun _ => M.TC_bind (cycleMean_tc hm) fun x hx => ?_))
  refine M.TC_ite (fun t => M.TC_ret (.inl (by decide))) (fun t => ?_)
  obtain ⟨b, _, b2, _⟩ := isRatio_same x.1
  have hx := (hx.resolve_left fun h => by rw [h.1] at t; cases t).2
  cases b with
  | false => exact M.TC_bind (Mid := fun w => w.2 = 3) (M.TC_bindC b2 (M.TC_ite (fun _ => M.TC_ret rfl) (fun t => by cases t))) fun w hw => M.TC_ret (.inl (by rw [hw]; decide))
  | true => exact M.TC_bind (Mid := fun w => w.2 = 0 ∧ w.1 = x.1) (M.TC_bindC b2 (M.TC_ite (fun t => by cases t) (fun _ => M.TC_ret ⟨rfl, rfl⟩))) fun w hw => M.TC_ret (.inr ⟨hw.1, by rw [hw.2]; exact b2, by rw [hw.2]; exact hx⟩)
theorem FnColumns_ok (code : List Int) (h : fitL inU8 code) : M.Conv (laws_FnColumns code) true := by
  apply M.TC.conv
  unfold laws_FnColumns
  refine M.TC_bindC (big_ok code) (M.TC_ite (fun _ => M.TC_ret rfl) (fun hb => ?_))
  have hbc := ByC.of h hb
  refine M.TC_bind (show M.TC (spec_DrawEigenColumns code) MatS from M.TC_bind (from_ok hbc) fun s hs => M.TC_bind (draw6_ok hbc hs) fun x hx => M.TC_ret hx.1) fun a ha => ?_
  have sa := ha.sm
  obtain ⟨w, w1, w2, hsm, hw⟩ := columns_Two a sa
  refine M.TC_bindC w2 (M.TC_bindC w1 (M.TC_bindC (x := false) (M.Conv_ite (fun t => by simp at t) (fun _ => M.Conv_bind (likeTables_refl hsm) (M.Conv_ret _))) (M.TC_ite (fun t => by cases t) (fun _ => M.TC_ite (fun _ => M.TC_ret rfl) (fun t => ?_)))))
  obtain ⟨hq, l, W, r, S, rr, hC, ew, hval, hcomp⟩ := hw (by simpa using t)
  have hm := sq_mat hq
  have hrows := hm.rows
  refine M.TC_bindC hcomp (M.TC_bind (CycleMean_tc2 sa hq) fun mu hmu => ?_)
  have hKl := keepN_len (rr := rr) (c := critB (matF a.length a.length (shF a r.Den r.Num)) S) (n := a.length)
  have hwl : w.1.length = (keepN rr (critB (matF a.length a.length (shF a r.Den r.Num)) S) a.length).length := by rw [ew, List.length_map]
  refine M.TC_bind (M.TC_forE (n := w.1.length) (fun _ (_ : Unit) => True) (fun (_ : Bool) => False) (by omega) trivial (fun i s hi _ => ?_)) (fun y hy => ?_)
  · refine M.TC_bindC (x := false) (M.Conv_ite (fun t => ?_) (fun _ => M.Conv_ret _)) (M.TC_ite (fun t => by cases t) (fun _ => M.TC_ret (.inl ⟨(), rfl, trivial⟩)))
    have h0 : mu.2 = 0 := by simpa using t
    obtain ⟨_, hr, l', W', hmc', hr'⟩ := hmu.resolve_left fun q => q h0
    have er : mu.1 = r := hmc'.same hC.mc hr' hC.rp
    rw [er] at hr ⊢
    have hg := List.getElem?_eq_getElem hi
    have hx := hval _ (List.getElem_mem hi)
    have hmem : w.1[i] ∈ (keepN rr (critB (matF a.length a.length (shF a r.Den r.Num)) S) a.length).map (colT S a.length) := by rw [← ew]; exact List.getElem_mem hi
    generalize w.1[i] = x at hg hx hmem
    obtain ⟨v, hv, rfl⟩ := List.mem_map.1 hmem
    obtain ⟨v1, _, j, hj, hcc⟩ := keepN_mem hv
    obtain ⟨k, hz⟩ := hC.zw hm v1 hj hcc
    exact M.Conv_bind (M.Conv_idx hg) (M.Conv_bind (eigen_ok sa hq hC hz hr hx) (M.Conv_ret _))
  · rcases hy with ⟨s, rfl, _⟩ | ⟨r, _, hf⟩
    · refine M.TC_ret ?_
      rw [hwl, show (keepF rr (critB (matF a.length a.length (shF a r.Den r.Num)) S) a.length).length = (keepN rr (critB (matF a.length a.length (shF a r.Den r.Num)) S) a.length).length from List.length_map _]
      simp
    · exact hf.elim

end Go.Proofs.YtelopfgolahlpaaGreat
