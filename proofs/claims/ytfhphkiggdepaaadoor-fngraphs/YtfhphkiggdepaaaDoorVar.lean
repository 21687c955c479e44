/-
  Variables that lie in memory; whole structs; parts of slices; rows.
-/
import Derived.Test.YtfhphkiggdepaaaDoorHold
import Derived.Lib.SliceRun
namespace Go.Proofs.YtfhphkiggdepaaaDoor
open Go
variable {α β : Type}
variable {P : Program} {Q : Exit → Act → World → Prop} {N : Nat} {w0 : World} {k : List Ctl} {L : Env} {h0 h : Heap} {o : Oper} {K : Value → Heap → Prop} {R is : List Item}

/-! ### variables -/
theorem E_box {ty : Nat} {cs : List Value} (H : Hold h0 h R) (he : ∀ w, (execOp (rho L) o).run P w = .ok (.value (.pointer (some ⟨w.heap.size, 0, none⟩))) (w.alloc (.cells cs.toArray ty)))
    (g : ∀ b h', Hold h0 h' (box b ty cs :: R) → K (.pointer (some ⟨b, 0, none⟩)) h') : Eff P w0 L h o K := by
  refine E_new (fun s => .pointer (some ⟨s, 0, none⟩)) _ he fun h' e => ?_
  subst e
  exact g _ _ (H.add (i := box h.size ty cs) (Ext.push h _) (F := [h.size]) ⟨rfl, heap_push_new h _⟩ (Sep.fresh _) (Nat.zero_le _))
theorem Hold.cell {b ty off : Nat} {vs : List Value} {v : Value} (H : Hold h0 h is) (n : Nat) (e : is[n]? = some (box b ty vs)) (hv : vs[off]? = some v) : cellH h ⟨b, off, none⟩ = some v := by
  obtain ⟨F, ⟨_, p⟩, _⟩ := H.get n e
  unfold cellH
  simp only [p, Option.isSome_none, Bool.false_eq_true, if_false]
  simpa using hv
theorem Hold.cells {b ty off n : Nat} {vs cs : List Value} (H : Hold h0 h is) (m : Nat) (e : is[m]? = some (box b ty vs)) (hv : (vs.drop off).take n = cs) : ∀ j v, cs[j]? = some v → cellH h ((⟨b, off, none⟩ : Addr).add j) = some v := by
  intro j v hj
  subst hv
  have h1 := take_get hj
  rw [List.getElem?_drop] at h1
  have hadd : (⟨b, off, none⟩ : Addr).add j = ⟨b, off + j, none⟩ := by unfold Addr.add; split <;> simp_all
  rw [hadd]
  exact H.cell m e h1
theorem run_loadCells {w : World} {p : Addr} : ∀ (n : Nat) (cs acc : List Value) (i : Nat), cs.length = n → (∀ j v, cs[j]? = some v → w.cell? (p.add (i + j)) = some v) → (loadCellsFrom p i n acc.toArray).run P w = .ok (acc ++ cs).toArray w
  | 0, cs, acc, i, hl, _ => by
    have : cs = [] := List.eq_nil_of_length_eq_zero hl
    subst this
    simp [loadCellsFrom]
  | n + 1, [], acc, i, hl, _ => by simp at hl
  | n + 1, c :: cs, acc, i, hl, hc => by
    have h1 := hc 0 c rfl
    have ih := run_loadCells (w := w) (p := p) n cs (acc ++ [c]) (i + 1) (by simpa using hl) (fun j v hj => by rw [show i + 1 + j = i + (j + 1) by omega]; exact hc (j + 1) v (by simpa using hj))
    have e1 : acc.toArray.push c = (acc ++ [c]).toArray := by simp
    simp only [Nat.add_zero] at h1
    simp only [loadCellsFrom, Sem.run_bind, load, Sem.run, h1, Result.andThen_ok, e1]
    simpa using ih
/-- a whole struct -/
theorem Y_loadA {t n : Nat} {p : Addr} {cs : List Value} (he : execOp (rho L) o = (do pure (.value (← Instr.loadAt t (.pointer (some p)))))) (ht : ∀ w, (isAgg t).run P w = .ok true w) (hs : (P.info? t).map (·.size) = some n) (hl : cs.length = n)
    (hc : ∀ j v, cs[j]? = some v → cellH h (p.add j) = some v) : Y P w0 (· = h) L o (.agg cs.toArray) := by
  intro w hw
  obtain ⟨inf, i1, i2⟩ := Option.map_eq_some_iff.1 hs
  have h1 := run_loadCells (P := P) (w := w) (p := p) n cs [] 0 hl (fun j v hj => by rw [Nat.zero_add]; have := hc j v hj; rw [← hw.heap] at this; exact this)
  have h2 : (loadVar t p).run P w = .ok (.agg cs.toArray) w := by
    simp only [loadVar, ht, Sem.run_bind, Result.andThen_ok, if_true, sizeOf, typeInfo, program, Sem.run, i1, i2, Sem.run_pure, loadCells]
    have h3 : (loadCellsFrom p 0 n #[]).run P w = .ok cs.toArray w := by simpa using h1
    rw [h3]
    rfl
  rw [he]
  simp [Instr.loadAt, Instr.sureAddr, h2, Oper.quietUpon]
theorem adr_add {b off n j : Nat} : (adr (some ⟨b, off, none⟩) n).add j = ⟨b, off + (n + j), none⟩ := by
  rw [adr_some]; unfold Addr.add; split <;> simp_all [Nat.add_assoc]
theorem Rd.elemV {C : Cd α} {B : Bs} {a : Option Addr} {cap : Nat} {l : List α} (r : Rd C h B a cap l) {i : Nat} {x : α} (hi : l[i]? = some x) : ∃ vs, C.rd h B x vs ∧ ∀ j v, vs[j]? = some v → cellH h ((adr a (i * C.sz)).add j) = some v := by
  obtain ⟨_, vs, h1, h2⟩ := r.cell hi
  refine ⟨vs, h1, fun j v hj => ?_⟩
  have h3 := h2 j v hj
  rcases r.cells with rfl | ⟨b, off, ccs, ty, fr, rfl, hb, hg, hx⟩
  · simp at hi
  · rw [adr_add]; rw [adr_some] at h3; exact h3
/-- an element that is a struct, at the address that 'indexAddr' gives -/
theorem Rd.elem {C : Cd α} {B : Bs} {a : Option Addr} {cap : Nat} {l : List α} (r : Rd C h B a cap l) {i : Nat} {x : α} {cs : List Value} (hi : l[i]? = some x) (e : ∀ vs, C.rd h B x vs → vs = cs) :
    ∀ j v, cs[j]? = some v → cellH h ((adr a (i * C.sz)).add j) = some v := by
  obtain ⟨vs, h1, h2⟩ := r.elemV hi
  have := e vs h1
  subst this
  exact h2
/-- .. and one field of it -/
theorem Rd.field {C : Cd α} {B : Bs} {a : Option Addr} {cap : Nat} {l : List α} (r : Rd C h B a cap l) {i f : Nat} {x : α} {v : Value} (hi : l[i]? = some x) (e : ∀ vs, C.rd h B x vs → vs[f]? = some v) :
    cellH h ((adr a (i * C.sz)).add f) = some v := by
  obtain ⟨vs, h1, h2⟩ := r.elemV hi
  exact h2 f v (e vs h1)

/-- a store into a variable, whole or a field -/
theorem E_bput {b ty t off : Nat} {vs us : List Value} {v : Value} (H : Hold h0 h (box b ty vs :: R)) (he : execOp (rho L) o = (do Instr.storeAt t (.pointer (some ⟨b, off, none⟩)) v; pure .skip)) (hs : (P.info? t).map (·.size) = some v.cells.toList.length)
    (h1 : v.cells.toList.all (·.oneCell') = true) (hfit : Nat.ble (off + v.cells.toList.length) vs.length = true) (hu : vs.take off ++ v.cells.toList ++ vs.drop (off + v.cells.toList.length) = us)
    (g : ∀ h', Hold h0 h' (box b ty us :: R) → K undef h') : Eff P w0 L h o K := by
  subst hu
  obtain ⟨inf, i1, i2⟩ := Option.map_eq_some_iff.1 hs
  refine E_run fun w hw => ?_
  have hw1 := hw.heap
  subst hw1
  obtain ⟨F, ⟨rfl, p⟩, s, back⟩ := H.open
  have hst := run_storeCells_at P b off ty v.cells.toList 0 vs.toArray w p (by simpa using Nat.le_of_ble_eq_true hfit) (List.all_eq_true.1 h1)
  simp only [Nat.add_zero] at hst
  have hrun : (Instr.storeAt t (.pointer (some ⟨b, off, none⟩)) v).run P w = .ok () (w.setRow b (vs.take off ++ v.cells.toList ++ vs.drop (off + v.cells.toList.length)).toArray) := by
    have hvs : v.cells.size = inf.size := by rw [i2]; simp
    simp only [Instr.storeAt, Instr.sureAddr, storeVar, sizeOf, typeInfo, Sem.run_bind, Sem.run_pure, Result.andThen_ok, program, Sem.run, i1, hvs, ne_eq, not_true_eq_false, if_false]
    simpa using hst
  have fr1 : Fr [b] w.heap (w.setRow b (vs.take off ++ v.cells.toList ++ vs.drop (off + v.cells.toList.length)).toArray).heap := ⟨by simp, fun c _ hF => setRow_other w b c _ (fun e => hF (by simp [e]))⟩
  refine ⟨undef, w.setRow b (vs.take off ++ v.cells.toList ++ vs.drop (off + v.cells.toList.length)).toArray, _, .inr ⟨rfl, by rw [he]; simp [hrun]⟩, hw.str ⟨rfl, rfl, rfl, by first | exact DrLe.refl _ | exact DrLe.succ _⟩, g _ (back _ (box b ty _) [b] fr1 ⟨rfl, setRow_heap w b _ _ ty _ p⟩ (s.mono (Nat.le_refl _) (by simp)) (fun b hb => .inl hb) (Nat.zero_le _))⟩

/-! ### leaving -/
def rdR (tmps : Array Value) : ResultVar → Sem Value
  | .tmp t => pure (tmps.getD t undef)
  | .cell a t => do loadVar t (← asAddr (tmps.getD a undef))
theorem results_rdR (fn : Func) (tmps : Array Value) : results fn tmps = (do let vs ← fn.results.mapM (rdR tmps); pure (if h : vs.size = 1 then vs[0] else .tuple vs)) := rfl
/-- the result x is v, in the heap h -/
def ResV (P : Program) (N : Nat) (L : Env) (h : Heap) (x : ResultVar) (v : Value) : Prop := ∀ a w, Has N a L → w.heap = h → (rdR a.tmps x).run P w = .ok v w
theorem ResV_tmp {t : Nat} {v : Value} (hv : lk L t = some v) : ResV P N L h (.tmp t) v := fun a w hL _ => by simp [rdR, hL.get hv]
theorem run_loadA {w : World} {t n : Nat} {p : Addr} {cs : List Value} (ht : ∀ w, (isAgg t).run P w = .ok true w) (hs : (P.info? t).map (·.size) = some n) (hl : cs.length = n) (hc : ∀ j v, cs[j]? = some v → cellH w.heap (p.add j) = some v) : (loadVar t p).run P w = .ok (.agg cs.toArray) w := by
  obtain ⟨inf, i1, i2⟩ := Option.map_eq_some_iff.1 hs
  have h1 := run_loadCells (P := P) (w := w) (p := p) n cs [] 0 hl (fun j v hj => by rw [Nat.zero_add]; exact hc j v hj)
  simp only [loadVar, ht, Sem.run_bind, Result.andThen_ok, if_true, sizeOf, typeInfo, program, Sem.run, i1, i2, Sem.run_pure, loadCells]
  have h3 : (loadCellsFrom p 0 n #[]).run P w = .ok cs.toArray w := by simpa using h1
  rw [h3]
  rfl
theorem ResV_cell {t ty n : Nat} {p : Addr} {cs : List Value} (hv : lk L t = some (.pointer (some p))) (ht : ∀ w, (isAgg ty).run P w = .ok true w) (hs : (P.info? ty).map (·.size) = some n) (hl : cs.length = n) (hc : ∀ j v, cs[j]? = some v → cellH h (p.add j) = some v) :
    ResV P N L h (.cell t ty) (.agg cs.toArray) := fun a w hL hw => by
  have := run_loadA (P := P) (w := w) (p := p) ht hs hl (fun j v hj => by rw [hw]; exact hc j v hj)
  simp [rdR, hL.get hv, asAddr, this]
section
variable {fn : Func} {Post : Value → Heap → Prop} {x0 x1 x2 x3 : ResultVar} {v0 v1 v2 v3 : Value}
theorem Run_ret1 (hr : fn.results = #[x0]) (e0 : ResV P N L h x0 v0) (hp : Post v0 h) : Run P (bodyPost P fn fun e w' => ∃ v h', e = .returned v ∧ At w0 h' w' ∧ Post v h') N w0 (.code .ret :: k) L h :=
  Run_ret fun a w hL hW => bodyPost_ret (by rw [results_rdR, hr]; simp [e0 a w hL hW.heap]) hL.defers ⟨_, h, rfl, hW, hp⟩
theorem Run_ret2 (hr : fn.results = #[x0, x1]) (e0 : ResV P N L h x0 v0) (e1 : ResV P N L h x1 v1) (hp : Post (.tuple #[v0, v1]) h) : Run P (bodyPost P fn fun e w' => ∃ v h', e = .returned v ∧ At w0 h' w' ∧ Post v h') N w0 (.code .ret :: k) L h :=
  Run_ret fun a w hL hW => bodyPost_ret (by rw [results_rdR, hr]; simp [e0 a w hL hW.heap, e1 a w hL hW.heap]) hL.defers ⟨_, h, rfl, hW, hp⟩
end

/-! ### parts of a slice -/
def sliceA (a : Option Addr) (cap lo sz : Nat) : Option Addr := if cap = lo then a else a.map (·.add (lo * sz))
theorem Rd.sub {C : Cd α} {B : Bs} {cap lo hi : Nat} {a : Option Addr} {l : List α} (r : Rd C h B a cap l) (h1 : lo ≤ hi) (h2 : hi ≤ l.length) : Rd C h B (sliceA a cap lo C.sz) (cap - lo) ((l.drop lo).take (hi - lo)) := by
  have hs := r.small
  have hfit := r.fits
  refine ⟨by simp; omega, by simp; omega, ?_⟩
  by_cases hc : cap = lo
  · left
    have : hi - lo = 0 := by omega
    rw [this, List.take_zero]
  · rcases r.cells with rfl | ⟨b, off, cs, ty, fr, rfl, hb, hg, hx⟩
    · left; simp
    · right
      refine ⟨b, off + lo * C.sz, cs, ty, fr, ?_, hb, hg, fun i x hi' => ?_⟩
      · simp only [sliceA, hc, if_false, Option.map_some, Addr.add]
        split <;> simp_all
      · have := take_getA hi'
        rw [List.getElem?_drop] at this
        obtain ⟨vs, p1, p2⟩ := hx (lo + i) x this
        refine ⟨vs, p1, fun j v hj => ?_⟩
        have := p2 j v hj
        rw [show off + lo * C.sz + i * C.sz + j = off + (lo + i) * C.sz + j by rw [Nat.add_mul]; omega]
        exact this
theorem Own.cut {C : Cd α} {a : Option Addr} {cap : Nat} {l : List α} {F : List Nat} (o : Own C h a cap l F) (n : Nat) : ∃ F', Own C h a cap (l.take n) F' ∧ F'.Sublist F ∧ sliceA a cap 0 C.sz = a := by
  rcases o.cells with ⟨rfl, rfl, rfl, rfl⟩ | ⟨g, cs, Fs, rfl, hg, h1, h2, h3, rfl, en⟩
  · exact ⟨[], by simpa using Own.nil C h, List.Sublist.refl _, by simp [sliceA]⟩
  · refine ⟨g :: (Fs.take n).flatten, ⟨by have := o.small; simp; omega, .inr ⟨g, cs, Fs.take n, rfl, hg, h1, by simp; omega, h3, rfl, ?_, by simp [en.fp], fun i x hi => ?_⟩⟩, ?_, ?_⟩
    · have := en.len
      simp only [List.length_take, Array.length_toList] at this ⊢
      have h4 : min n l.length * C.sz ≤ l.length * C.sz := Nat.mul_le_mul_right _ (Nat.min_le_right _ _)
      omega
    · have hi0 := take_getA hi
      obtain ⟨vs, Fx, f1, f2, f3⟩ := en.elem i x hi0
      have hin : i < n := by
        have := (List.getElem?_eq_some_iff.1 hi).1
        simp at this; omega
      refine ⟨vs, Fx, by rw [List.getElem?_take, if_pos hin]; exact f1, f2, fun j v hj => ?_⟩
      have h5 := take_get (f3 j v hj)
      have hj2 : j < C.sz := by rw [← C.own_len f2]; exact (List.getElem?_eq_some_iff.1 hj).1
      have hil : i < (l.take n).length := (List.getElem?_eq_some_iff.1 hi).1
      have h6 : i * C.sz + C.sz ≤ (l.take n).length * C.sz := by rw [← Nat.succ_mul]; exact Nat.mul_le_mul_right _ hil
      rw [List.getElem?_take, if_pos (by omega)]
      exact h5
    · refine List.Sublist.cons_cons _ ?_
      have : Fs = Fs.take n ++ Fs.drop n := (List.take_append_drop n Fs).symm
      conv => rhs; rw [this, List.flatten_append]
      exact List.sublist_append_left _ _
    · unfold sliceA
      split
      · rfl
      · simp [Addr.add]
theorem Hold.cut {C : Cd α} {a : Option Addr} {m cap : Nat} {l : List α} (H : Hold h0 h (own C a m cap l :: R)) (n : Nat) : Hold h0 h (own C a (l.take n).length cap (l.take n) :: R) ∧ sliceA a cap 0 C.sz = a := by
  obtain ⟨F, ⟨p, _⟩, s, back⟩ := H.open
  have p : Own C h a cap l F := p
  obtain ⟨F', p', hs, e⟩ := p.cut n
  exact ⟨back h (own C a (l.take n).length cap (l.take n)) F' (Fr.refl _ _) ⟨p', rfl⟩ ⟨s.nodup.sublist hs, fun b hb => s.lo b (hs.subset hb), fun b hb => s.hi b (hs.subset hb)⟩ (fun b hb => .inl (hs.subset hb)) (Nat.zero_le _), e⟩
theorem Y_slice {C : Heap → Prop} {t e sz : Nat} {a : Option Addr} {n cap : Nat} {lo hi : Option (IntKind × Int)} (he : execOp (rho L) o = (do pure (.value (← Instr.sliceAt t (.slice a n cap) (lo.map fun p => .int p.1 p.2) (hi.map fun p => .int p.1 p.2) none))))
    (h1 : P.underlying t = some (.slice e)) (h2 : (P.info? e).map (·.size) = some sz) (hn : n ≤ cap) {x y : Int} (ex : x = (lo.map (·.2)).getD 0) (ey : y = (hi.map (·.2)).getD (n : Int)) (b0 : 0 ≤ x) (b1 : x ≤ y) (b2 : y ≤ n) :
    Y P w0 C L o (.slice (sliceA a cap x.toNat sz) (y.toNat - x.toNat) (cap - x.toNat)) := by
  intro w _
  obtain ⟨inf, hi', hs⟩ := Option.map_eq_some_iff.1 h2
  rw [he]
  have hyc : y ≤ cap := by omega
  have key : (Instr.sliceBounds true n cap (lo.map fun p => .int p.1 p.2) (hi.map fun p => .int p.1 p.2) none).run P w = .ok (x.toNat, y.toNat, cap) w := by
    have c1 : ((y.toNat : Nat) : Int) = y := by omega
    cases lo with
    | none =>
      simp only [Option.map_none, Option.getD_none] at ex
      subst ex
      cases hi with
      | none => simp only [Option.map_none, Option.getD_none] at ey; subst ey; simp [Instr.sliceBounds]
      | some q => simp only [Option.map_some, Option.getD_some] at ey; subst ey; simp [Instr.sliceBounds, Instr.sliceBound, asIntOf, hyc, show (0:Int) ≤ q.2 by omega]
    | some p =>
      simp only [Option.map_some, Option.getD_some] at ex
      subst ex
      cases hi with
      | none => simp only [Option.map_none, Option.getD_none] at ey; subst ey; simp [Instr.sliceBounds, Instr.sliceBound, asIntOf, b0, b1]
      | some q => simp only [Option.map_some, Option.getD_some] at ey; subst ey; simp [Instr.sliceBounds, Instr.sliceBound, asIntOf, b0, b1, hyc, show (0:Int) ≤ q.2 by omega, c1]
  simp only [Instr.sliceAt, Instr.slice, Sem.run_bind, run_underlying h1, Result.andThen_ok]
  simp only [key, Result.andThen_ok, sizeOf, typeInfo, program, Sem.run, hi', hs, Sem.run_bind, Sem.run_pure]
  simp only [Oper.quietUpon, sliceA]
  exact ⟨trivial, trivial⟩
/-! ### rows, to be written -/
/-- a contract, its arguments spelled otherwise -/
theorem Fn.arg {f : FuncId} {args args' : Array Value} {Post : Value → Heap → Prop} (c : Fn P f args h Post) (e : args = args') : Fn P f args' h Post := e ▸ c
/-- what a callee has handed back is its argument, or nothing -/
def Ali (a' a : Option Addr) (c' c : Nat) (y x : List α) : Prop := (a' = a ∧ c' = c ∧ y = x) ∨ (a' = none ∧ c' = 0 ∧ y = [])
theorem Hold.alias {C : Cd α} {a a' : Option Addr} {n c c' : Nat} {x y : List α} (H : Hold h0 h (own C a n c x :: R)) (d : Ali a' a c' c y x) : Hold h0 h (own C a' y.length c' y :: R) := by
  obtain ⟨F, ⟨p, hn⟩, s, back⟩ := H.open
  rcases d with ⟨rfl, rfl, rfl⟩ | ⟨rfl, rfl, rfl⟩
  · exact back h (own C a' y.length c' y) F (Fr.refl _ _) ⟨p, rfl⟩ s (fun b hb => .inl hb) (Nat.zero_le _)
  · exact back h (own C none 0 0 []) [] (Fr.refl _ _) ⟨Own.nil C h, rfl⟩ (Sep.nil _ _) (fun b hb => by cases hb) (Nat.zero_le _)
theorem Rd.alias {C : Cd α} {B : Bs} {a a' : Option Addr} {c c' : Nat} {x y : List α} (r : Rd C h B a c x) (d : Ali a' a c' c y x) : Rd C h B a' c' y := by
  rcases d with ⟨rfl, rfl, rfl⟩ | ⟨rfl, rfl, rfl⟩
  · exact r
  · exact Rd.nil C h B _ _
theorem Y_cls {C : Heap → Prop} {v : Value} (y : ∀ h, C h → Y P w0 (· = h) L o v) : Y P w0 C L o v := by
  intro w hw
  have h1 := y w.heap hw.heap w ⟨rfl, hw.os, hw.tape, hw.output, hw.drs⟩
  generalize (execOp (rho L) o).run P w = r at *
  cases r with
  | ok n w' =>
    cases n <;> simp only [Oper.quietUpon] at h1 ⊢
    case value u => exact h1
    case skip => exact h1
    case enter f args =>
      refine ⟨h1.1, h1.2.mono ?_⟩
      rintro e w'' ⟨h2, h3⟩
      exact ⟨h2, by rw [h3.heap]; exact hw.heap, h3.os, h3.tape, h3.output, h3.drs⟩
  | halt x w' => simp only [Oper.quietUpon] at h1
theorem Run_q1 {all : List Oper} {i : Nat} (j : Nat) {L' : Env} (q : QRun P N w0 (· = h) all i j L L') (g : Run P Q N w0 (.ops all j :: k) L' h) : Run P Q N w0 (.ops all i :: k) L h := Run_q (C := (· = h)) j rfl q fun h' e => by subst e; exact g
theorem Enc.consE {C : Cd α} {x : α} {vs : List Value} {Fx : List Nat} {l : List α} {xs ys : List Value} {Fs : List (List Nat)} (o : C.own h x vs Fx) (n : Enc C h l xs Fs) (e : vs ++ xs = ys) : Enc C h (x :: l) ys (Fx :: Fs) := e ▸ Enc.cons o n
theorem QRun_bool {C : Heap → Prop} {all : List Oper} {i j : Nat} {L' : Env} (b c : Bool) (hf : fineI N all L i = true) (he : ∀ w, (execOp (rho L) (opA all i)).run P w = .ok (.value (.bool b)) w) (hb : b = c)
    (g : QRun P N w0 C all (i + 1) j (setL L (opA all i).dst (.bool c)) L') : QRun P N w0 C all i j L L' := QRun_y (.bool c) hf (Y_bool he hb) g
/-! ### variables that are looked at -/
def VarAt (h : Heap) (b ty : Nat) (vs : List Value) : Prop := h[b]? = some (.cells vs.toArray ty (0, 0))
theorem VarAt.at {h' : Heap} {b ty : Nat} {vs : List Value} (x : VarAt h b ty vs) (e : Ext h h') : VarAt h' b ty vs := (e.block b (Array.getElem?_eq_some_iff.1 x).1 (by simp)).trans x
theorem VarAt.cell {b ty off : Nat} {vs : List Value} {v : Value} (x : VarAt h b ty vs) (hv : vs[off]? = some v) : cellH h ⟨b, off, none⟩ = some v := by
  have x : h[b]? = some (.cells vs.toArray ty (0, 0)) := x
  unfold cellH
  simp only [x, Option.isSome_none, Bool.false_eq_true, if_false]
  simpa using hv
theorem VarAt.cells {b ty off n : Nat} {vs cs : List Value} (x : VarAt h b ty vs) (hv : (vs.drop off).take n = cs) : ∀ j v, cs[j]? = some v → cellH h ((⟨b, off, none⟩ : Addr).add j) = some v := by
  intro j v hj
  subst hv
  have h1 := take_get hj
  rw [List.getElem?_drop] at h1
  have hadd : (⟨b, off, none⟩ : Addr).add j = ⟨b, off + j, none⟩ := by unfold Addr.add; split <;> simp_all
  rw [hadd]
  exact x.cell h1
theorem Hold.var {b ty : Nat} {vs : List Value} (H : Hold h0 h is) (n : Nat) (e : is[n]? = some (box b ty vs)) : VarAt h b ty vs := by
  obtain ⟨F, ⟨_, p⟩, _⟩ := H.get n e
  exact p
/-! ### nil -/
theorem Y_isnil {C : Heap → Prop} {t e n c : Nat} {a : Option Addr} (he : execOp (rho L) o = (do pure (.value (← binOp .eql t (.slice a n c) (.slice none 0 0))))) (ht : P.underlying t = some (.slice e)) : Y P w0 C L o (.bool a.isNone) := by
  intro w _
  rw [he]
  simp [Lib.run_eql_slice_nil w t e a n c 0 0 ht, Oper.quietUpon]
theorem Rd.isNone {C : Cd α} {B : Bs} {a : Option Addr} {cap : Nat} {l : List α} (r : Rd C h B a cap l) (ha : a.isNone = true) : l = [] := by
  rcases r.cells with hl | ⟨b, off, cs, ty, fr, rfl, _⟩
  · exact hl
  · cases ha
/-! ### a test that is no test -/
end Go.Proofs.YtfhphkiggdepaaaDoor
