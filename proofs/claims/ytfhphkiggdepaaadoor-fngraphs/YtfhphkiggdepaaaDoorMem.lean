/-
  How lists lie in memory: read by whoever holds a slice; owned by whoever has made it.
-/
import Derived.Test.YtfhphkiggdepaaaDoorEng
import Derived.Test.YtfhphkiggdepaaaDoorM
namespace Go.Proofs.YtfhphkiggdepaaaDoor
open Go

/-! ### heaps that agree -/
/-- h' is h with more blocks, and with writes to blocks of F alone -/
structure Fr (F : List Nat) (h h' : Heap) : Prop where
  size : h.size ≤ h'.size
  block : ∀ b, b < h.size → b ∉ F → h'[b]? = h[b]?
theorem Fr.refl (F : List Nat) (h : Heap) : Fr F h h := ⟨Nat.le_refl _, fun _ _ _ => rfl⟩
theorem Fr.trans {F : List Nat} {h1 h2 h3 : Heap} (a : Fr F h1 h2) (b : Fr F h2 h3) : Fr F h1 h3 :=
  ⟨Nat.le_trans a.size b.size, fun i hi hF => (b.block i (Nat.lt_of_lt_of_le hi a.size) hF).trans (a.block i hi hF)⟩
theorem Fr.weak {F F' : List Nat} {h h' : Heap} (a : Fr F h h') (hs : ∀ b, b < h.size → b ∈ F → b ∈ F') : Fr F' h h' := ⟨a.size, fun b hb hn => a.block b hb (fun hm => hn (hs b hb hm))⟩
abbrev Ext (h h' : Heap) : Prop := Fr [] h h'
theorem Ext.fr {F : List Nat} {h h' : Heap} (a : Ext h h') : Fr F h h' := a.weak fun _ _ hm => by cases hm
/-- the own blocks of a thing: all different, from lo on, below the heap's end -/
structure Sep (lo : Nat) (h : Heap) (F : List Nat) : Prop where
  nodup : F.Nodup
  lo : ∀ b ∈ F, lo ≤ b
  hi : ∀ b ∈ F, b < h.size
theorem Sep.mono {lo lo' : Nat} {h h' : Heap} {F : List Nat} (s : Sep lo h F) (hl : lo' ≤ lo) (hs : h.size ≤ h'.size) : Sep lo' h' F :=
  ⟨s.nodup, fun b hb => Nat.le_trans hl (s.lo b hb), fun b hb => Nat.lt_of_lt_of_le (s.hi b hb) hs⟩
def Dj (F G : List Nat) : Prop := ∀ b ∈ F, b ∉ G
theorem Dj.symm {F G : List Nat} (d : Dj F G) : Dj G F := fun b hb hF => d b hF hb
theorem Dj.new {lo : Nat} {h h' h2 : Heap} {F G : List Nat} (s : Sep lo h F) (t : Sep h2.size h' G) (hs : h.size ≤ h2.size) : Dj F G := fun b hb hg => by
  have := s.hi b hb; have := t.lo b hg; omega
/-- an extension, seen from an elder heap: what is written has been made since -/
theorem Fr.later {F G : List Nat} {h0 h h' : Heap} (e : Fr F h0 h) (f : Fr G h h') (hG : ∀ b ∈ G, h0.size ≤ b) : Fr F h0 h' :=
  ⟨Nat.le_trans e.size f.size, fun b hb hF => (f.block b (Nat.lt_of_lt_of_le hb e.size) (fun hm => by have := hG b hm; omega)).trans (e.block b hb hF)⟩

def cellH (h : Heap) (a : Addr) : Option Value :=
  match h[a.block]? with
  | some (.cells c _ _) => if a.spot.isSome then none else c[a.off]?
  | _ => none
theorem cell?_eq (w : World) (a : Addr) : w.cell? a = cellH w.heap a := rfl

/-! ### elements -/
/-- a set of blocks -/
abbrev Bs := Nat → Prop
/-- those of the heap h -/
abbrev Lt (h : Heap) : Bs := fun b => b < h.size
structure Cd (α : Type) where
  ty : Nat
  sz : Nat
  pos : 0 < sz
  rd : Heap → Bs → α → List Value → Prop
  own : Heap → α → List Value → List Nat → Prop
  rd_len : ∀ {h B x vs}, rd h B x vs → vs.length = sz
  rd_one : ∀ {h B x vs}, rd h B x vs → ∀ u ∈ vs, u.oneCell' = true
  rd_ext : ∀ {h h' : Heap} {B x vs}, (∀ b, B b → h'[b]? = h[b]?) → rd h B x vs → rd h' B x vs
  rd_mono : ∀ {h} {B B' : Bs} {x vs}, (∀ b, B b → B' b) → rd h B x vs → rd h B' x vs
  own_ext : ∀ {h h' x vs F}, (∀ b ∈ F, h'[b]? = h[b]?) → own h x vs F → own h' x vs F
  own_rd : ∀ {h x vs F}, own h x vs F → rd h (· ∈ F) x vs

theorem Cd.own_any {α : Type} (C : Cd α) {h : Heap} {x : α} {vs : List Value} {F : List Nat} (o : C.own h x vs F) : ∃ B, C.rd h B x vs := ⟨_, C.own_rd o⟩
theorem Cd.own_len {α : Type} (C : Cd α) {h : Heap} {x : α} {vs : List Value} {F : List Nat} (o : C.own h x vs F) : vs.length = C.sz := let ⟨_, r⟩ := C.own_any o; C.rd_len r
theorem Cd.own_one {α : Type} (C : Cd α) {h : Heap} {x : α} {vs : List Value} {F : List Nat} (o : C.own h x vs F) : ∀ u ∈ vs, u.oneCell' = true := let ⟨_, r⟩ := C.own_any o; C.rd_one r

/-- cells that hold no address -/
def flatCd {α : Type} (ty sz : Nat) (pos : 0 < sz) (enc : α → List Value) (hl : ∀ x, (enc x).length = sz) (h1 : ∀ x, (enc x).all (·.oneCell') = true) : Cd α where
  ty := ty
  sz := sz
  pos := pos
  rd := fun _ _ x vs => vs = enc x
  own := fun _ x vs F => vs = enc x ∧ F = []
  rd_len := fun e => by rw [e]; exact hl _
  rd_one := fun e => by rw [e]; exact List.all_eq_true.1 (h1 _)
  rd_ext := fun _ e => e
  rd_mono := fun _ e => e
  own_ext := fun _ e => e
  own_rd := fun e => e.1

variable {α : Type}
/-- from the address a on lie the elements l, all in blocks below B -/
structure Rd (C : Cd α) (h : Heap) (B : Bs) (a : Option Addr) (cap : Nat) (l : List α) : Prop where
  small : l.length ≤ 9223372036854775807
  fits : l.length ≤ cap
  cells : l = [] ∨ ∃ b off cs ty fr, a = some ⟨b, off, none⟩ ∧ B b ∧ h[b]? = some (.cells cs ty fr) ∧
    ∀ i x, l[i]? = some x → ∃ vs, C.rd h B x vs ∧ ∀ j v, vs[j]? = some v → cs[off + i * C.sz + j]? = some v
/-- the cells xs hold the elements l, whose own blocks are Fs -/
structure Enc (C : Cd α) (h : Heap) (l : List α) (xs : List Value) (Fs : List (List Nat)) : Prop where
  len : xs.length = l.length * C.sz
  fp : Fs.length = l.length
  elem : ∀ i x, l[i]? = some x → ∃ vs Fx, Fs[i]? = some Fx ∧ C.own h x vs Fx ∧ ∀ j v, vs[j]? = some v → xs[i * C.sz + j]? = some v
/-- the slice at a, with room for cap elements, holds l, and is the holder's own: its blocks are F -/
structure Own (C : Cd α) (h : Heap) (a : Option Addr) (cap : Nat) (l : List α) (F : List Nat) : Prop where
  small : l.length ≤ 9223372036854775807
  cells : (a = none ∧ cap = 0 ∧ l = [] ∧ F = []) ∨ ∃ (g : Nat) (cs : Array Value) (Fs : List (List Nat)), a = some ⟨g, 0, none⟩ ∧ h[g]? = some (.cells cs C.ty (0, 0)) ∧ cs.size = cap * C.sz ∧ l.length ≤ cap ∧ cap ≤ maxLen ∧ F = g :: Fs.flatten ∧
    Enc C h l (cs.toList.take (l.length * C.sz)) Fs

theorem Rd.ext {C : Cd α} {h h' : Heap} {B : Bs} {a : Option Addr} {cap : Nat} {l : List α} (r : Rd C h B a cap l) (e : ∀ b, B b → h'[b]? = h[b]?) : Rd C h' B a cap l := by
  refine ⟨r.small, r.fits, ?_⟩
  rcases r.cells with hn | ⟨b, off, cs, ty, fr, ha, hb, hc, hx⟩
  · exact .inl hn
  · exact .inr ⟨b, off, cs, ty, fr, ha, hb, (e b hb).trans hc, fun i x hi => let ⟨vs, h1, h2⟩ := hx i x hi; ⟨vs, C.rd_ext e h1, h2⟩⟩
theorem Rd.mono {C : Cd α} {h : Heap} {B B' : Bs} {a : Option Addr} {cap : Nat} {l : List α} (r : Rd C h B a cap l) (hB : ∀ b, B b → B' b) : Rd C h B' a cap l := by
  refine ⟨r.small, r.fits, ?_⟩
  rcases r.cells with hn | ⟨b, off, cs, ty, fr, ha, hb, hc, hx⟩
  · exact .inl hn
  · exact .inr ⟨b, off, cs, ty, fr, ha, hB b hb, hc, fun i x hi => let ⟨vs, h1, h2⟩ := hx i x hi; ⟨vs, C.rd_mono hB h1, h2⟩⟩
/-- read in a later heap -/
theorem Rd.at {C : Cd α} {h h' : Heap} {a : Option Addr} {cap : Nat} {l : List α} (r : Rd C h (Lt h) a cap l) (e : Ext h h') : Rd C h' (Lt h') a cap l := (r.ext fun b hb => e.block b hb (by simp)).mono fun b hb => Nat.lt_of_lt_of_le hb e.size
theorem Rd.later {C : Cd α} {h h' : Heap} {a : Option Addr} {cap : Nat} {l : List α} (r : Rd C h (Lt h) a cap l) (e : Ext h h') : Rd C h' (Lt h) a cap l := r.ext fun b hb => e.block b hb (by simp)
theorem Rd.nil (C : Cd α) (h : Heap) (B : Bs) (a : Option Addr) (cap : Nat) : Rd C h B a cap [] := ⟨by simp, by simp, .inl rfl⟩
theorem Enc.ext {C : Cd α} {h h' : Heap} {l : List α} {xs : List Value} {Fs : List (List Nat)} (n : Enc C h l xs Fs) (e : ∀ b ∈ Fs.flatten, h'[b]? = h[b]?) : Enc C h' l xs Fs :=
  ⟨n.len, n.fp, fun i x hi => by
    obtain ⟨vs, Fx, hF, ho, hv⟩ := n.elem i x hi
    exact ⟨vs, Fx, hF, C.own_ext (fun b hb => e b (List.mem_flatten.2 ⟨Fx, List.mem_of_getElem? hF, hb⟩)) ho, hv⟩⟩
theorem Enc.nil (C : Cd α) (h : Heap) : Enc C h [] [] [] := ⟨by simp, rfl, fun i x hi => by simp at hi⟩
theorem Enc.append {C : Cd α} {h : Heap} {l l' : List α} {xs xs' : List Value} {Fs Fs' : List (List Nat)} (n : Enc C h l xs Fs) (n' : Enc C h l' xs' Fs') : Enc C h (l ++ l') (xs ++ xs') (Fs ++ Fs') := by
  refine ⟨by simp [n.len, n'.len, Nat.add_mul], by simp [n.fp, n'.fp], fun i x hi => ?_⟩
  by_cases hlt : i < l.length
  · rw [List.getElem?_append_left hlt] at hi
    obtain ⟨vs, Fx, hF, ho, hv⟩ := n.elem i x hi
    refine ⟨vs, Fx, by rw [List.getElem?_append_left (by rw [n.fp]; exact hlt)]; exact hF, ho, fun j v hj => ?_⟩
    have := hv j v hj
    rw [List.getElem?_append_left (List.getElem?_eq_some_iff.1 this).1]
    exact this
  · rw [List.getElem?_append_right (by omega)] at hi
    obtain ⟨vs, Fx, hF, ho, hv⟩ := n'.elem _ x hi
    refine ⟨vs, Fx, by rw [List.getElem?_append_right (by rw [n.fp]; omega), n.fp]; exact hF, ho, fun j v hj => ?_⟩
    have h2 : i * C.sz + j = l.length * C.sz + ((i - l.length) * C.sz + j) := by
      rw [← Nat.add_assoc, ← Nat.add_mul]; congr 2; omega
    rw [List.getElem?_append_right (by rw [n.len, h2]; omega), n.len, h2, Nat.add_sub_cancel_left]
    exact hv j v hj
theorem Enc.one {C : Cd α} {h : Heap} {l : List α} {xs : List Value} {Fs : List (List Nat)} (n : Enc C h l xs Fs) : ∀ u ∈ xs, u.oneCell' = true := by
  intro u hu
  obtain ⟨p, hp, rfl⟩ := List.mem_iff_getElem.1 hu
  have hs := C.pos
  have hq : p / C.sz < l.length := (Nat.div_lt_iff_lt_mul hs).2 (by rw [← n.len]; exact hp)
  obtain ⟨vs, Fx, hF, ho, hv⟩ := n.elem (p / C.sz) _ (List.getElem?_eq_getElem hq)
  have hr : p % C.sz < vs.length := by rw [C.own_len ho]; exact Nat.mod_lt _ hs
  have h1 := hv (p % C.sz) _ (List.getElem?_eq_getElem hr)
  have h2 : p / C.sz * C.sz + p % C.sz = p := by rw [Nat.mul_comm]; exact Nat.div_add_mod p C.sz
  rw [h2, List.getElem?_eq_getElem hp] at h1
  rw [Option.some.inj h1]
  exact C.own_one ho _ (List.getElem_mem hr)
theorem Own.ext {C : Cd α} {h h' : Heap} {a : Option Addr} {cap : Nat} {l : List α} {F : List Nat} (o : Own C h a cap l F) (e : ∀ b ∈ F, h'[b]? = h[b]?) : Own C h' a cap l F := by
  refine ⟨o.small, ?_⟩
  rcases o.cells with hn | ⟨g, cs, Fs, ha, hg, h1, h2, h3, rfl, n⟩
  · exact .inl hn
  · exact .inr ⟨g, cs, Fs, ha, (e g List.mem_cons_self).trans hg, h1, h2, h3, rfl, n.ext fun b hb => e b (List.mem_cons_of_mem _ hb)⟩
theorem Own.fr {C : Cd α} {h h' : Heap} {a : Option Addr} {cap : Nat} {l : List α} {F G : List Nat} {lo : Nat} (o : Own C h a cap l F) (s : Sep lo h F) (f : Fr G h h') (d : Dj F G) : Own C h' a cap l F :=
  o.ext fun b hb => f.block b (s.hi b hb) (d b hb)
theorem Own.later {C : Cd α} {h h' : Heap} {a : Option Addr} {cap : Nat} {l : List α} {F : List Nat} {lo : Nat} (o : Own C h a cap l F) (s : Sep lo h F) (f : Ext h h') : Own C h' a cap l F :=
  o.ext fun b hb => f.block b (s.hi b hb) (by simp)
theorem take_get {xs : List Value} {n p : Nat} {v : Value} (h : (xs.take n)[p]? = some v) : xs[p]? = some v := by
  rw [List.getElem?_take] at h
  split at h
  · exact h
  · cases h
theorem Own.rd {C : Cd α} {h : Heap} {a : Option Addr} {cap : Nat} {l : List α} {F : List Nat} (o : Own C h a cap l F) : Rd C h (· ∈ F) a cap l := by
  refine ⟨o.small, (by rcases o.cells with ⟨_, _, rfl, _⟩ | ⟨_, _, _, _, _, _, h2, _⟩; simp; exact h2), ?_⟩
  rcases o.cells with ⟨_, _, hl, _⟩ | ⟨g, cs, Fs, ha, hg, h1, h2, h3, rfl, n⟩
  · exact .inl hl
  · refine .inr ⟨g, 0, cs, C.ty, (0, 0), ha, List.mem_cons_self, hg, fun i x hi => ?_⟩
    obtain ⟨vs, Fx, hF, ho, hv⟩ := n.elem i x hi
    refine ⟨vs, C.rd_mono (fun b hb => List.mem_cons_of_mem _ (List.mem_flatten.2 ⟨Fx, List.mem_of_getElem? hF, hb⟩)) (C.own_rd ho), fun j v hj => ?_⟩
    have := take_get (hv j v hj)
    rw [Nat.zero_add]
    simpa using this
theorem Own.at {C : Cd α} {h : Heap} {a : Option Addr} {cap : Nat} {l : List α} {F : List Nat} {lo : Nat} (o : Own C h a cap l F) (s : Sep lo h F) : Rd C h (Lt h) a cap l := o.rd.mono s.hi
theorem Own.nil (C : Cd α) (h : Heap) : Own C h none 0 [] [] := ⟨by simp, .inl ⟨rfl, rfl, rfl, rfl⟩⟩
theorem Sep.nil (lo : Nat) (h : Heap) : Sep lo h [] := ⟨List.nodup_nil, fun _ hb => (by cases hb), fun _ hb => (by cases hb)⟩

/-- rows: slices among the elements of a slice -/
def rowCd (C : Cd α) (ty : Nat) : Cd (List α) where
  ty := ty
  sz := 1
  pos := Nat.one_pos
  rd := fun h B l vs => ∃ a cap, vs = [.slice a l.length cap] ∧ Rd C h B a cap l
  own := fun h l vs F => ∃ a cap, vs = [.slice a l.length cap] ∧ Own C h a cap l F
  rd_len := fun ⟨_, _, e, _⟩ => by rw [e]; rfl
  rd_one := fun ⟨_, _, e, _⟩ => by rw [e]; simp [Value.oneCell']
  rd_ext := fun e ⟨a, cap, h1, h2⟩ => ⟨a, cap, h1, h2.ext e⟩
  rd_mono := fun e ⟨a, cap, h1, h2⟩ => ⟨a, cap, h1, h2.mono e⟩
  own_ext := fun e ⟨a, cap, h1, h2⟩ => ⟨a, cap, h1, h2.ext e⟩
  own_rd := fun ⟨a, cap, h1, h2⟩ => ⟨a, cap, h1, h2.rd⟩

/-! ### addresses and loads -/
def adr (a : Option Addr) (n : Nat) : Addr := (a.getD ⟨0, 0, none⟩).add n
theorem adr_some (b off n : Nat) : adr (some ⟨b, off, none⟩) n = ⟨b, off + n, none⟩ := by
  simp only [adr, Option.getD_some, Addr.add]; split <;> simp_all
theorem add_add (p : Addr) (f i : Nat) : (p.add f).add i = p.add (f + i) := by
  unfold Addr.add
  by_cases hf : f = 0 <;> by_cases hi : i = 0 <;> simp [hf, hi, Nat.add_assoc]
theorem Rd.cell {C : Cd α} {h : Heap} {B : Bs} {a : Option Addr} {cap : Nat} {l : List α} (r : Rd C h B a cap l) {i : Nat} {x : α} (hi : l[i]? = some x) :
    a.isSome = true ∧ ∃ vs, C.rd h B x vs ∧ ∀ j v, vs[j]? = some v → cellH h (adr a (i * C.sz + j)) = some v := by
  rcases r.cells with rfl | ⟨b, off, cs, ty, fr, rfl, hb, hc, hx⟩
  · simp at hi
  · obtain ⟨vs, h1, h2⟩ := hx i x hi
    refine ⟨rfl, vs, h1, fun j v hj => ?_⟩
    rw [adr_some, cellH]
    simp only [hc, Option.isSome_none, Bool.false_eq_true, if_false]
    rw [← Nat.add_assoc]
    exact h2 j v hj

theorem Y_idx {P : Program} {w0 : World} {C : Heap → Prop} {L : Env} {o : Oper} {t e sz : Nat} {a : Option Addr} {n cap : Nat} {kk : IntKind} {i : Int}
    (he : execOp (rho L) o = (do pure (.value (← Instr.indexAt t (.slice a n cap) (.int kk i)))))
    (h1 : P.underlying t = some (.slice e)) (h2 : (P.info? e).map (·.size) = some sz) (ha : a.isSome = true) (h0 : 0 ≤ i) (hn : i < n) : Y P w0 C L o (.pointer (some (adr a (i.toNat * sz)))) := by
  intro w _
  obtain ⟨ad, rfl⟩ := Option.isSome_iff_exists.1 ha
  obtain ⟨inf, hi, hs⟩ := Option.map_eq_some_iff.1 h2
  rw [he]
  simp [Instr.indexAt, asIntOf, run_underlying h1, sizeOf, typeInfo, hi, hs, adr, h0, hn, Oper.quietUpon]
theorem run_load1 {P : Program} {w : World} {t : Nat} {p : Addr} {v : Value} (ht : ∀ w, (isAgg t).run P w = .ok false w) (hc : w.cell? p = some v) : (loadVar t p).run P w = .ok v w := by
  simp [loadVar, ht, load, Sem.run, hc]
theorem Y_load1C {P : Program} {w0 : World} {C : Heap → Prop} {L : Env} {o : Oper} {t : Nat} {p : Addr} {v : Value} (he : execOp (rho L) o = (do pure (.value (← Instr.loadAt t (.pointer (some p))))))
    (ht : ∀ w, (isAgg t).run P w = .ok false w) (hc : ∀ h, C h → cellH h p = some v) : Y P w0 C L o v := by
  intro w hw
  rw [he]
  have : w.cell? p = some v := hc _ hw.heap
  simp [Instr.loadAt, Instr.sureAddr, run_load1 ht this, Oper.quietUpon]
theorem Y_load1 {P : Program} {w0 : World} {h : Heap} {L : Env} {o : Oper} {t : Nat} {p : Addr} {v : Value} (he : execOp (rho L) o = (do pure (.value (← Instr.loadAt t (.pointer (some p))))))
    (ht : ∀ w, (isAgg t).run P w = .ok false w) (hc : cellH h p = some v) : Y P w0 (· = h) L o v := Y_load1C he ht fun h' e => by subst e; exact hc
theorem Y_rem {P : Program} {w0 : World} {C : Heap → Prop} {L : Env} {o : Oper} {k : IntKind} {x y : Int} (op : BinOp := .rem) (he : execOp (rho L) o = (do pure (.value (← Op.intDiv .rem k x y)))) (hy : (y != 0) = true) : Y P w0 C L o (.int k (x.tmod y)) := by
  have hy' : ¬ y = 0 := by simpa using hy
  have _ := op
  intro w _
  rw [he]
  simp [Op.intDiv, hy', Oper.quietUpon]
theorem Y_shr {P : Program} {w0 : World} {C : Heap → Prop} {L : Env} {o : Oper} {k kk : IntKind} {x y : Int} (he : execOp (rho L) o = (do pure (.value (← Op.shift .shr k x kk y)))) (hy : decide (0 ≤ y) = true) : Y P w0 C L o (.int k (ishr k x y)) := by
  have hy' : ¬ y < 0 := by have := of_decide_eq_true hy; omega
  intro w _
  rw [he]
  simp [Op.shift, hy', Oper.quietUpon, ishr]
/-- elements of one cell, read -/
theorem Rd.cell1 {α : Type} {C : Cd α} {h : Heap} {B : Bs} {a : Option Addr} {cap : Nat} {l : List α} {v : Value} (r : Rd C h B a cap l) {i : Nat} {x : α} (hi : l[i]? = some x) (e : ∀ vs, C.rd h B x vs → vs[0]? = some v) :
    cellH h (adr a (i * C.sz)) = some v := by
  obtain ⟨_, vs, h1, h2⟩ := r.cell hi
  exact h2 0 v (e vs h1)
theorem Rd.row {α : Type} {C : Cd α} {ty : Nat} {h : Heap} {B : Bs} {a : Option Addr} {cap : Nat} {l : List (List α)} (r : Rd (rowCd C ty) h B a cap l) {i : Nat} {x : List α} (hi : l[i]? = some x) :
    ∃ a' c', cellH h (adr a (i * 1)) = some (.slice a' x.length c') ∧ Rd C h B a' c' x := by
  obtain ⟨_, vs, ⟨a', c', rfl, h1⟩, h2⟩ := r.cell hi
  exact ⟨a', c', h2 0 _ rfl, h1⟩
end Go.Proofs.YtfhphkiggdepaaaDoor
