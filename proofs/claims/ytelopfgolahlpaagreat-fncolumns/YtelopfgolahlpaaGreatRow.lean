/-
  Rows that may show twice: a slice of rows that are read in other own blocks, with its loads, stores and lengths.
-/
import Derived.Test.YtelopfgolahlpaaGreatMut
namespace Go.Proofs.YtelopfgolahlpaaGreat
open Go
variable {α : Type}
/-! ### rows that may show twice (under way: the things that slices.DeleteFunc on rows needs) -/
/-- the outer array is the holder's own; every row is read in other blocks of the holder, and may show in two cells -/
def LR (C : Cd α) (ty : Nat) (h : Heap) (a : Option Addr) (n cap : Nat) (l : List (List α)) (F : List Nat) : Prop :=
  l.length = n ∧ l.length ≤ 9223372036854775807 ∧ ((a = none ∧ cap = 0 ∧ l = []) ∨ ∃ (g : Nat) (cs : Array Value) (G : List Nat), a = some ⟨g, 0, none⟩ ∧ F = g :: G ∧ h[g]? = some (.cells cs ty (0, 0)) ∧ cs.size = cap ∧ l.length ≤ cap ∧ cap ≤ maxLen ∧ ∀ (i : Nat) (x : List α), l[i]? = some x → ∃ a' c', cs[i]? = some (Value.slice a' x.length c') ∧ Rd C h (· ∈ G) a' c' x)
theorem LR.ext {C : Cd α} {ty n cap : Nat} {h h' : Heap} {a : Option Addr} {l : List (List α)} {F : List Nat} (r : LR C ty h a n cap l F) (e : ∀ b ∈ F, h'[b]? = h[b]?) : LR C ty h' a n cap l F := by
  obtain ⟨h1, h2, h3 | ⟨g, cs, G, h3, rfl, h4, h5, h6, h7, h8⟩⟩ := r
  · exact ⟨h1, h2, .inl h3⟩
  · exact ⟨h1, h2, .inr ⟨g, cs, G, h3, rfl, (e g List.mem_cons_self).trans h4, h5, h6, h7, fun i x hx => let ⟨a', c', q1, q2⟩ := h8 i x hx; ⟨a', c', q1, q2.ext fun b hb => e b (List.mem_cons_of_mem _ hb)⟩⟩⟩
def lrows (C : Cd α) (ty : Nat) (a : Option Addr) (n cap : Nat) (l : List (List α)) : Item := ⟨0, fun h F => LR C ty h a n cap l F, fun _ e r => r.ext e⟩
theorem Own.loose {C : Cd α} {ty n cap : Nat} {h : Heap} {a : Option Addr} {l : List (List α)} {F : List Nat} (o : Own (rowCd C ty) h a cap l F) (hn : l.length = n) : LR C ty h a n cap l F := by
  refine ⟨hn, o.small, ?_⟩
  rcases o.cells with ⟨h1, h2, h3, _⟩ | ⟨g, cs, Fs, h1, h2, h3, h4, h5, h6, en⟩
  · exact .inl ⟨h1, h2, h3⟩
  · refine .inr ⟨g, cs, Fs.flatten, h1, h6, h2, by rw [h3]; exact Nat.mul_one _, h4, h5, fun i x hx => ?_⟩
    obtain ⟨vs, Fx, q1, ⟨a', c', q2, q3⟩, q4⟩ := en.elem i x hx
    have hi := (List.getElem?_eq_some_iff.1 hx).1
    have := q4 0 (Value.slice a' x.length c') (by rw [q2]; rfl)
    refine ⟨a', c', ?_, q3.rd.mono fun b hb => List.mem_flatten.2 ⟨Fx, List.mem_of_getElem? q1, hb⟩⟩
    have e1 : (rowCd C ty).sz = 1 := rfl
    rw [e1, Nat.mul_one, Nat.mul_one, Nat.add_zero, List.getElem?_take_of_lt hi, Array.getElem?_toList] at this
    exact this
theorem Hold.toL {C : Cd α} {ty n cap : Nat} {h0 h : Heap} {a : Option Addr} {l : List (List α)} {R : List Item} (H : Hold h0 h (own (rowCd C ty) a n cap l :: R)) : Hold h0 h (lrows C ty a n cap l :: R) := H.turn (fun _ p => Own.loose p.1 p.2) (Nat.zero_le _)
theorem LR.rd {C : Cd α} {ty n cap : Nat} {h : Heap} {a : Option Addr} {l : List (List α)} {F : List Nat} (r : LR C ty h a n cap l F) : Rd (rowCd C ty) h (· ∈ F) a cap l := by
  obtain ⟨h1, h2, ⟨_, _, rfl⟩ | ⟨g, cs, G, h3, rfl, h4, h5, h6, h7, h8⟩⟩ := r
  · exact Rd.nil _ _ _ _ _
  · refine ⟨h2, h6, .inr ⟨g, 0, cs, ty, (0, 0), h3, List.mem_cons_self, h4, fun i x hx => ?_⟩⟩
    obtain ⟨a', c', q1, q2⟩ := h8 i x hx
    refine ⟨[Value.slice a' x.length c'], ⟨a', c', rfl, q2.mono fun b hb => List.mem_cons_of_mem _ hb⟩, fun j v hj => ?_⟩
    have e1 : (rowCd C ty).sz = 1 := rfl
    cases j with
    | zero =>
      simp only [List.getElem?_cons_zero, Option.some.injEq] at hj
      rw [← hj, e1, Nat.mul_one, Nat.zero_add, Nat.add_zero]; exact q1
    | succ j => simp at hj
theorem Hold.rdL {C : Cd α} {ty m cap : Nat} {h0 h : Heap} {is : List Item} {a : Option Addr} {l : List (List α)} (H : Hold h0 h is) (n : Nat) (e : is[n]? = some (lrows C ty a m cap l)) : Rd (rowCd C ty) h (Lt h) a cap l :=
  let ⟨_, o, s⟩ := H.get n e
  (LR.rd o).mono fun b hb => (s b hb).2
theorem Hold.lenL {C : Cd α} {ty m cap : Nat} {h0 h : Heap} {is : List Item} {a : Option Addr} {l : List (List α)} (H : Hold h0 h is) (n : Nat) (e : is[n]? = some (lrows C ty a m cap l)) : l.length = m :=
  let ⟨_, o, _⟩ := H.get n e
  o.1
/-- the front part -/
theorem LR.front {C : Cd α} {ty n cap : Nat} {h : Heap} {a : Option Addr} {l : List (List α)} {F : List Nat} (r : LR C ty h a n cap l F) {k : Nat} (hk : k ≤ n) : LR C ty h a k cap (l.take k) F := by
  obtain ⟨h1, h2, h3⟩ := r
  refine ⟨by rw [List.length_take]; omega, by rw [List.length_take]; omega, ?_⟩
  rcases h3 with ⟨q1, q2, q3⟩ | ⟨g, cs, G, h3, rfl, h4, h5, h6, h7, h8⟩
  · exact .inl ⟨q1, q2, by rw [q3]; simp⟩
  · refine .inr ⟨g, cs, G, h3, rfl, h4, h5, by rw [List.length_take]; omega, h7, fun i x hx => h8 i x ?_⟩
    have hi := (List.getElem?_eq_some_iff.1 hx).1
    rw [List.length_take] at hi
    rw [List.getElem?_take_of_lt (by omega)] at hx
    exact hx
/-- one row shown in another cell too -/
theorem LR.store {C : Cd α} {ty n cap : Nat} {h h' : Heap} {l : List (List α)} {g : Nat} {cs : Array Value} {G : List Nat} (hn : l.length = n) (hs : l.length ≤ 9223372036854775807) (hc : cs.size = cap) (h6 : l.length ≤ cap) (h7 : cap ≤ maxLen) (h8 : ∀ (i : Nat) (x : List α), l[i]? = some x → ∃ a' c', cs[i]? = some (Value.slice a' x.length c') ∧ Rd C h (· ∈ G) a' c' x)
    {i : Nat} {x : List α} {a' : Option Addr} {c' : Nat} (hi : i < l.length) (hx : Rd C h (· ∈ G) a' c' x) (hg : h'[g]? = some (.cells (cs.setIfInBounds i (Value.slice a' x.length c')) ty (0, 0))) (hG : ∀ b ∈ G, h'[b]? = h[b]?) : LR C ty h' (some ⟨g, 0, none⟩) n cap (l.set i x) (g :: G) := by
  refine ⟨by rw [List.length_set]; exact hn, by rw [List.length_set]; exact hs, .inr ⟨g, _, G, rfl, rfl, hg, by simp [hc], by rw [List.length_set]; exact h6, h7, fun j y hy => ?_⟩⟩
  by_cases e : j = i
  · subst e
    rw [List.getElem?_set_self hi, Option.some.injEq] at hy
    subst hy
    exact ⟨a', c', by simp [show j < cs.size by omega], hx.ext hG⟩
  · rw [List.getElem?_set_ne (fun h => e h.symm)] at hy
    obtain ⟨a2, c2, q1, q2⟩ := h8 j y hy
    exact ⟨a2, c2, by rw [Array.getElem?_setIfInBounds_ne (fun h => e h.symm)]; exact q1, q2.ext hG⟩
theorem Hold.cutL {C : Cd α} {ty n cap : Nat} {h0 h : Heap} {R : List Item} {a : Option Addr} {l : List (List α)} (H : Hold h0 h (lrows C ty a n cap l :: R)) {k : Nat} (hk : k ≤ n) : Hold h0 h (lrows C ty a k cap (l.take k) :: R) := H.turn (fun _ p => LR.front p hk) (Nat.zero_le _)
theorem Hold.normL {C : Cd α} {ty n cap : Nat} {h0 h : Heap} {R : List Item} {a : Option Addr} {l : List (List α)} (H : Hold h0 h (lrows C ty a n cap l :: R)) : Hold h0 h (lrows C ty a l.length cap l :: R) := H.turn (fun _ p => ⟨rfl, p.2⟩) (Nat.zero_le _)
section
variable {P : Program} {w0 : World} {L : Env} {h0 h : Heap} {R : List Item} {o : Oper} {K : Value → Heap → Prop}
/-- a row that is shown already, stored -/
theorem E_putL {C : Cd α} {ty t n cap p : Nat} {a a' : Option Addr} {c' : Nat} {l l2 : List (List α)} {x : List α} (H : Hold h0 h (lrows C ty a n cap l :: R)) {j : Int} (hp : l[p]? = some x) (hc : cellH h (adr a (p * 1)) = some (.slice a' x.length c')) (hsz : (P.info? t).map (·.size) = some 1)
    (he : execOp (rho L) o = (do Instr.storeAt t (.pointer (some (adr a (j.toNat * 1)))) (.slice a' x.length c'); pure .skip)) (hr : 0 ≤ j ∧ j < l.length ∧ l2 = l.set j.toNat x)
    (g : ∀ h', Hold h0 h' (lrows C ty a n cap l2 :: R) → K undef h') : Eff P w0 L h o K := by
  obtain ⟨j0, j1, rfl⟩ := hr
  obtain ⟨inf, i1, i2⟩ := Option.map_eq_some_iff.1 hsz
  refine E_run fun w hw => ?_
  have hw1 := hw.heap
  subst hw1
  obtain ⟨F, q, s, back⟩ := H.open
  have q : LR C ty w.heap a n cap l F := q
  obtain ⟨h1, h2, ⟨_, _, rfl⟩ | ⟨g2, cs, G, rfl, rfl, h4, h5, h6, h7, h8⟩⟩ := q
  · simp at hp
  · have hgG : g2 ∉ G := (List.nodup_cons.1 s.nodup).1
    have hc' : cs[p]? = some (Value.slice a' x.length c') := by
      rw [adr_some, cellH] at hc
      simp only [h4, Option.isSome_none, Bool.false_eq_true, if_false, Nat.zero_add, Nat.mul_one] at hc
      exact hc
    obtain ⟨a3, c3, e1, e2⟩ := h8 p x hp
    rw [hc'] at e1
    simp only [Option.some.injEq, Value.slice.injEq, true_and] at e1
    obtain ⟨rfl, rfl⟩ := e1
    have hst := run_storeCells_at P g2 j.toNat ty [Value.slice a' x.length c'] 0 cs w h4 (by simp; omega) (by simp [Value.oneCell'])
    simp only [Nat.add_zero] at hst
    have eset : (cs.toList.take j.toNat ++ [Value.slice a' x.length c'] ++ cs.toList.drop (j.toNat + [Value.slice a' x.length c'].length)).toArray = cs.setIfInBounds j.toNat (Value.slice a' x.length c') := by
      apply Array.ext'
      rw [List.toList_toArray, Array.toList_setIfInBounds, List.set_eq_take_append_cons_drop, if_pos (by simp; omega)]; simp
    rw [eset] at hst
    have hrun : (Instr.storeAt t (.pointer (some (adr (some ⟨g2, 0, none⟩) (j.toNat * 1)))) (.slice a' x.length c')).run P w = .ok () (w.setRow g2 (cs.setIfInBounds j.toNat (Value.slice a' x.length c'))) := by
      rw [adr_some]
      simp only [Nat.zero_add, Nat.mul_one]
      have hvc : (Value.slice a' x.length c').cells = #[Value.slice a' x.length c'] := rfl
      simp only [Instr.storeAt, Instr.sureAddr, storeVar, sizeOf, typeInfo, Sem.run_bind, Sem.run_pure, Result.andThen_ok, program, Sem.run, i1, hvc, i2, List.size_toArray, List.length_cons, List.length_nil, ne_eq, not_true_eq_false, if_false]
      exact hst
    have fr1 : Fr (g2 :: G) w.heap (w.setRow g2 (cs.setIfInBounds j.toNat (Value.slice a' x.length c'))).heap := ⟨by simp, fun b _ hF => setRow_other w g2 b _ (fun e => hF (by rw [e]; exact List.mem_cons_self))⟩
    refine ⟨undef, w.setRow g2 (cs.setIfInBounds j.toNat (Value.slice a' x.length c')), _, .inr ⟨rfl, by rw [he, Sem.run_bind, hrun]; rfl⟩, hw.str ⟨rfl, rfl, rfl, by first | exact Nat.le_refl _ | exact Nat.le_succ _⟩, g _ (back _ (lrows C ty (some ⟨g2, 0, none⟩) n cap (l.set j.toNat x)) (g2 :: G) fr1 ?_ (s.mono (Nat.le_refl _) (by simp)) (fun b hb => .inl hb) (Nat.zero_le _))⟩
    exact LR.store h1 h2 h5 h6 h7 h8 (by omega) e2 (setRow_heap w g2 cs _ ty _ h4) (fun b hb => setRow_other w g2 b _ (fun e => hgG (e ▸ hb)))
/-- the rows from k on cleared -/
theorem E_clearL {C : Cd α} {b t ty ey n m cap c2 k : Nat} {a : Option Addr} {l : List (List α)} (H : Hold h0 h (lrows C ey a n cap l :: R)) (hti : TI P ey (.slice none 0 0) 1 b) (ht : P.underlying t = some (.slice ey))
    (he : execOp (rho L) o = (do pure (.value (← Builtin.clear_ #[t] ty #[.slice (sliceA a cap k 1) m c2])))) (hk : k ≤ l.length) (hm : m = l.length - k)
    (g : ∀ h', Hold h0 h' (lrows C ey a n cap (l.take k ++ List.replicate m []) :: R) → K (.tuple #[]) h') : Eff P w0 L h o K := by
  obtain ⟨inf, i1, i2, i3, i4⟩ := hti.get
  refine E_run fun w hw => ?_
  have hw1 := hw.heap
  subst hw1
  obtain ⟨F, q, s, back⟩ := H.open
  have q : LR C ey w.heap a n cap l F := q
  have hlen : (l.take k ++ List.replicate m ([] : List α)).length = l.length := by simp; omega
  by_cases hm0 : m = 0
  · subst hm0
    refine ⟨_, w, w.heap, .inl ?_, hw, g _ ?_⟩
    · rw [he]
      cases sliceA a cap k 1 <;> simp [Builtin.clear_, run_underlying ht]
    · have : l.take k ++ List.replicate 0 ([] : List α) = l := by rw [List.replicate_zero, List.append_nil, List.take_of_length_le (by omega)]
      rw [this]; exact H
  obtain ⟨h1, h2, ⟨_, _, rfl⟩ | ⟨g2, cs, G, rfl, rfl, h4, h5, h6, h7, h8⟩⟩ := q
  · simp at hm; omega
  · have hgG : g2 ∉ G := (List.nodup_cons.1 s.nodup).1
    have had : sliceA (some ⟨g2, 0, none⟩) cap k 1 = some ⟨g2, k, none⟩ := by
      unfold sliceA
      rw [if_neg (by omega)]
      simp only [Option.map_some, Nat.mul_one]
      unfold Addr.add; split <;> simp_all
    have hzc : (Builtin.zeroCells (Value.slice none 0 0).cells m).toList = List.replicate m (Value.slice none 0 0) := by
      apply List.ext_getElem?
      intro q
      have : (Value.slice none 0 0).cells = #[Value.slice none 0 0] := rfl
      rw [this, Array.getElem?_toList, Builtin.zeroCells, Array.getElem?_map, Array.getElem?_range, List.getElem?_replicate]
      by_cases hq : q < m
      · simp [hq, Nat.mod_one]
      · simp [hq]
    have hst := run_storeCells_at P g2 k ey (List.replicate m (Value.slice none 0 0)) 0 cs w h4 (by simp; omega) (fun u hu => by rw [List.eq_of_mem_replicate hu]; rfl)
    simp only [Nat.add_zero] at hst
    have hzv : (zeroValue ey).run P w = .ok (.slice none 0 0) w := by simp [zeroValue, typeInfo, i1, i2]
    have hrun : (Builtin.clear_ #[t] ty #[.slice (some ⟨g2, k, none⟩) m c2]).run P w = .ok (.tuple #[]) (w.setRow g2 (cs.toList.take k ++ List.replicate m (Value.slice none 0 0) ++ cs.toList.drop (k + (List.replicate m (Value.slice none 0 0)).length)).toArray) := by
      obtain ⟨m', rfl⟩ : ∃ q, m = q + 1 := ⟨m - 1, by omega⟩
      simp [Builtin.clear_, run_underlying ht, hzv, hzc, hst]
    have hput : ∀ q, (cs.toList.take k ++ List.replicate m (Value.slice none 0 0) ++ cs.toList.drop (k + (List.replicate m (Value.slice none 0 0)).length))[q]? = if q < k then cs.toList[q]? else if q < k + m then some (Value.slice none 0 0) else cs.toList[q]? := fun q => by
      rw [put_get (by simp; omega), List.length_replicate]
      by_cases e1 : q < k
      · rw [if_pos e1, if_pos e1]
      · rw [if_neg e1, if_neg e1]
        by_cases e2 : q < k + m
        · rw [if_pos e2, if_pos e2, List.getElem?_replicate, if_pos (by omega)]
        · rw [if_neg e2, if_neg e2]
    have hlp : (cs.toList.take k ++ List.replicate m (Value.slice none 0 0) ++ cs.toList.drop (k + (List.replicate m (Value.slice none 0 0)).length)).length = cap := by simp; omega
    generalize cs.toList.take k ++ List.replicate m (Value.slice none 0 0) ++ cs.toList.drop (k + (List.replicate m (Value.slice none 0 0)).length) = ys at hrun hput hlp
    have fr1 : Fr (g2 :: G) w.heap (w.setRow g2 ys.toArray).heap := ⟨by simp, fun b _ hF => setRow_other w g2 b _ (fun e => hF (by rw [e]; exact List.mem_cons_self))⟩
    refine ⟨_, w.setRow g2 ys.toArray, (w.setRow g2 ys.toArray).heap, .inl (by rw [he, had]; simp [hrun]), hw.str ⟨rfl, rfl, rfl, by first | exact Nat.le_refl _ | exact Nat.le_succ _⟩, g _ (back _ (lrows C ey _ n cap _) (g2 :: G) fr1 ⟨by rw [hlen]; exact h1, by rw [hlen]; exact h2, .inr ⟨g2, ys.toArray, G, rfl, rfl, setRow_heap w g2 cs _ ey _ h4, by simpa using hlp, by rw [hlen]; exact h6, h7, fun i x hx => ?_⟩⟩ (s.mono (Nat.le_refl _) (by simp)) (fun b hb => .inl hb) (Nat.zero_le _))⟩
    have hi := (List.getElem?_eq_some_iff.1 hx).1
    rw [hlen] at hi
    by_cases e1 : i < k
    · rw [List.getElem?_append_left (by simp; omega), List.getElem?_take, if_pos e1] at hx
      obtain ⟨a', c', q1, q2⟩ := h8 i x hx
      refine ⟨a', c', ?_, q2.ext fun b hb => setRow_other w g2 b _ (fun e => hgG (e ▸ hb))⟩
      rw [List.getElem?_toArray, hput, if_pos e1, Array.getElem?_toList]; exact q1
    · rw [List.getElem?_append_right (by simp; omega), List.getElem?_replicate, if_pos (by simp; omega), Option.some.injEq] at hx
      subst hx
      exact ⟨none, 0, by rw [List.getElem?_toArray, hput, if_neg e1, if_pos (by omega)]; rfl, Rd.nil _ _ _ _ _⟩
end

theorem Hold.transN {h0 h1 h2 : Heap} {is : List Item} (H : Hold h0 h1 []) (G : Hold h1 h2 is) (hf : is.all (fun i => Nat.beq i.base 0) = true) : Hold h0 h2 is := by
  have := H.call G hf
  simpa using this
theorem sliceA0 {C : Cd α} {h : Heap} {B : Bs} {a : Option Addr} {cap sz : Nat} {l : List α} (_r : Rd C h B a cap l) : sliceA a cap (0 : Int).toNat sz = a := by
  unfold sliceA
  split
  · rfl
  · cases a <;> simp [Addr.add]
section
variable {P : Program} {w0 : World} {L : Env} {h0 h : Heap} {R : List Item} {o : Oper} {K : Value → Heap → Prop}
end
end Go.Proofs.YtelopfgolahlpaaGreat
