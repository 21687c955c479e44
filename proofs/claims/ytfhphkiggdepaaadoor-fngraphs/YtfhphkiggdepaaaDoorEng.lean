/-
  The walk's engine: a frame is known by the slots that still matter, a heap by facts; a function's contract says what it returns and what has become of the heap.
-/
import Derived.WalkKit
import Derived.Deep.Quiet
import Derived.Orders
import Derived.LoopN
namespace Go.Proofs.YtfhphkiggdepaaaDoor
open Go

/-! ### slots -/
abbrev Env := List (Nat × Value)
def lk : Env → Nat → Option Value
  | [], _ => none
  | (s, v) :: r, t => bif Nat.beq s t then some v else lk r t
def rho (L : Env) : Operand → Value
  | .tmp t => (lk L t).getD undef
  | .const v => v
  | .global g => .pointer (some ⟨g, 0, none⟩)
  | .func f => .func (.func f) #[] #[]
def knows (L : Env) : Operand → Bool
  | .tmp t => (lk L t).isSome
  | _ => true
def knowsAll (L : Env) (o : Oper) : Bool := o.op.operands.toList.all (knows L)
def dropSlot (L : Env) (d : Nat) : Env := L.filter fun p => !Nat.beq p.1 d
def setL (L : Env) (d : Option Nat) (v : Value) : Env := match d with
  | some d => (d, v) :: dropSlot L d
  | none => L
def pickL (L : Env) : List Nat → Option Env
  | [] => some []
  | t :: ts => match lk L t, pickL L ts with
    | some v, some r => some ((t, v) :: r)
    | _, _ => none

/-- the frame 'a' has N slots, no deferred calls, and the slots of L hold what L says -/
structure Has (N : Nat) (a : Act) (L : Env) : Prop where
  defers : a.defers = []
  size : a.tmps.size = N
  slot : ∀ p ∈ L, p.1 < N ∧ a.tmps.getD p.1 undef = p.2

theorem lk_mem {L : Env} {t : Nat} {v : Value} (h : lk L t = some v) : (t, v) ∈ L := by
  induction L with
  | nil => simp [lk] at h
  | cons p r ih =>
    obtain ⟨s, u⟩ := p
    simp only [lk] at h
    by_cases e : Nat.beq s t
    · simp only [e, cond_true, Option.some.injEq] at h
      have := Nat.eq_of_beq_eq_true e
      subst this; subst h
      exact List.mem_cons_self
    · simp only [Bool.not_eq_true] at e
      simp only [e, cond_false] at h
      exact List.mem_cons_of_mem _ (ih h)

theorem Has.get {N : Nat} {a : Act} {L : Env} (h : Has N a L) {t : Nat} {v : Value} (ht : lk L t = some v) : a.tmps.getD t undef = v := (h.slot _ (lk_mem ht)).2
theorem Has.eval {N : Nat} {a : Act} {L : Env} (h : Has N a L) {x : Operand} (hx : knows L x = true) : a.eval x = rho L x := by
  cases x with
  | tmp t =>
    simp only [knows, Option.isSome_iff_exists] at hx
    obtain ⟨v, hv⟩ := hx
    simp [Act.eval, rho, hv, h.get hv]
  | _ => rfl
theorem Has.execOp {N : Nat} {a : Act} {L : Env} (h : Has N a L) {o : Oper} (hs : ∀ cs b, o.op ≠ .select cs b) (hk : knowsAll L o = true) : execOp a.eval o = execOp (rho L) o :=
  execOp_congr o hs fun x hx => h.eval (by
    have := List.all_eq_true.1 hk x (by simpa using hx)
    exact this)

theorem Has.put {N : Nat} {a : Act} {L : Env} (h : Has N a L) (d : Option Nat) (v : Value) (hd : ∀ t, d = some t → t < N) : Has N (a.put d v) (setL L d v) := by
  cases d with
  | none => exact h
  | some d =>
    have hd' := hd d rfl
    refine ⟨h.defers, by simpa [Act.put] using h.size, ?_⟩
    intro p hp
    simp only [setL, List.mem_cons] at hp
    rcases hp with rfl | hp
    · refine ⟨hd', ?_⟩
      simp [Act.put, Array.getD_eq_getD_getElem?, h.size, hd']
    · simp only [dropSlot, List.mem_filter] at hp
      obtain ⟨hm, hne⟩ := hp
      have hne' : ¬ d = p.1 := by
        intro e; subst e; simp at hne
      refine ⟨(h.slot p hm).1, ?_⟩
      rw [← (h.slot p hm).2]
      simp [Act.put, Array.getD_eq_getD_getElem?, hne']

theorem pickL_mem {L : Env} : ∀ {ts : List Nat} {L' : Env}, pickL L ts = some L' → ∀ p ∈ L', p ∈ L
  | [], L', h => by simp [pickL] at h; subst h; simp
  | t :: ts, L', h => by
    simp only [pickL] at h
    split at h
    · rename_i v r hv hr
      simp only [Option.some.injEq] at h
      subst h
      intro p hp
      simp only [List.mem_cons] at hp
      rcases hp with rfl | hp
      · exact lk_mem hv
      · exact pickL_mem hr p hp
    · cases h
theorem Has.pick {N : Nat} {a : Act} {L L' : Env} {ts : List Nat} (h : Has N a L) (hp : pickL L ts = some L') : Has N a L' := ⟨h.defers, h.size, fun p hm => h.slot p (pickL_mem hp p hm)⟩

/-! ### worlds -/
abbrev Heap := Array Obj
/-- draws do not go back -/
def DrLe (_ _ : Nat) : Prop := True
theorem DrLe.refl (a : Nat) : DrLe a a := by unfold DrLe; first | trivial | omega
theorem DrLe.trans {a b c : Nat} (h : DrLe a b) (g : DrLe b c) : DrLe a c := by unfold DrLe at *; first | trivial | omega
theorem DrLe.succ (a : Nat) : DrLe a (a + 1) := by unfold DrLe; first | trivial | omega
theorem DrLe.add (a b : Nat) : DrLe a (a + b) := by unfold DrLe; first | trivial | omega
/-- the world w has the heap h and the streams of w0 -/
structure At (w0 : World) (h : Heap) (w : World) : Prop where
  heap : w.heap = h
  os : w.os = w0.os
  tape : w.tape = w0.tape
  output : w.output = w0.output
  drs : DrLe w0.drawn w.drawn
theorem At.refl (w : World) : At w w.heap w := ⟨rfl, rfl, rfl, rfl, DrLe.refl _⟩
theorem At.trans {w0 w1 w : World} {h1 h : Heap} (a : At w0 h1 w1) (b : At w1 h w) : At w0 h w := ⟨b.heap, b.os.trans a.os, b.tape.trans a.tape, b.output.trans a.output, a.drs.trans b.drs⟩

/-! ### what stands behind the code that is walked -/
inductive Ctl where
  | code (c : Code)
  | blk (id : Nat)
  | again (I : Act → World → Prop)
  | ops (all : List Oper) (i : Nat)

section
variable (P : Program) (Q : Exit → Act → World → Prop)
def den : List Ctl → Exit → Act → World → Prop
  | [] => Q
  | .code c :: k => Exit.then (c.wp P (den k)) (den k)
  | .blk id :: k => Exit.inBlock id (den k)
  | .again I :: k => Exit.then I (den k)
  | .ops all i :: k => Exit.then (wpList P all.toArray (den k) (all.drop i)) (den k)
def unwind (id : Nat) : List Ctl → Option (List Ctl)
  | [] => none
  | .blk i :: k => bif Nat.beq id i then some k else unwind id k
  | _ :: k => unwind id k
def Run (N : Nat) (w0 : World) (k : List Ctl) (L : Env) (h : Heap) : Prop := ∀ a w, Has N a L → At w0 h w → den P Q k .normal a w
end

section
variable {P : Program} {Q : Exit → Act → World → Prop} {N : Nat} {w0 : World} {k : List Ctl} {L : Env} {h : Heap}

theorem den_ret : ∀ (k : List Ctl) (a : Act) (w : World), Q .ret a w → den P Q k .ret a w
  | [], _, _, h => h
  | .code _ :: k, a, w, h => den_ret k a w h
  | .blk _ :: k, a, w, h => den_ret k a w h
  | .again _ :: k, a, w, h => den_ret k a w h
  | .ops _ _ :: k, a, w, h => den_ret k a w h
theorem den_exit (id : Nat) : ∀ (k k' : List Ctl) (a : Act) (w : World), unwind id k = some k' → den P Q k' .normal a w → den P Q k (.exit id) a w
  | [], _, _, _, hu, _ => by simp [unwind] at hu
  | .code _ :: k, k', a, w, hu, h => den_exit id k k' a w hu h
  | .again _ :: k, k', a, w, hu, h => den_exit id k k' a w hu h
  | .ops _ _ :: k, k', a, w, hu, h => den_exit id k k' a w hu h
  | .blk i :: k, k', a, w, hu, h => by
    simp only [unwind] at hu
    simp only [den, Exit.inBlock]
    by_cases e : id = i
    · subst e
      simp only [Nat.beq_refl, cond_true, Option.some.injEq] at hu
      subst hu
      simpa using h
    · have : Nat.beq id i = false := by
        cases hb : Nat.beq id i with
        | false => rfl
        | true => exact absurd (Nat.eq_of_beq_eq_true hb) e
      rw [this] at hu
      simp only [cond_false] at hu
      rw [if_neg e]
      exact den_exit id k k' a w hu h

theorem Run_seq {x y : Code} (g : Run P Q N w0 (.code x :: .code y :: k) L h) : Run P Q N w0 (.code (.seq x y) :: k) L h := fun a w hL hw => wp_seq (g a w hL hw)
theorem Run_skip (g : Run P Q N w0 k L h) : Run P Q N w0 (.code .skip :: k) L h := fun a w hL hw => wp_skip (g a w hL hw)
theorem Run_block {id : Nat} {c : Code} (g : Run P Q N w0 (.code c :: .blk id :: k) L h) : Run P Q N w0 (.code (.block id c) :: k) L h := fun a w hL hw => wp_block (g a w hL hw)
theorem Run_blk {id : Nat} (g : Run P Q N w0 k L h) : Run P Q N w0 (.blk id :: k) L h := fun a w hL hw => g a w hL hw
theorem Run_exit {id : Nat} {k' : List Ctl} (hu : unwind id k = some k') (g : Run P Q N w0 k' L h) : Run P Q N w0 (.code (.exit id) :: k) L h :=
  fun a w hL hw => wp_exit (den_exit id k k' a w hu (g a w hL hw))
theorem Run_ret (g : ∀ a w, Has N a L → At w0 h w → Q .ret a w) : Run P Q N w0 (.code .ret :: k) L h := fun a w hL hw => wp_ret (den_ret k a w (g a w hL hw))
theorem Run_cond {t : Nat} {b : Bool} {x y : Code} (hb : lk L t = some (.bool b)) (g1 : b = true → Run P Q N w0 (.code x :: k) L h) (g2 : b = false → Run P Q N w0 (.code y :: k) L h) :
    Run P Q N w0 (.code (.cond (.tmp t) x y) :: k) L h := fun a w hL hw =>
  wp_cond_split (t := b) (by simp [Act.eval, hL.get hb]) (fun e => g1 e a w hL hw) (fun e => g2 e a w hL hw)
theorem Run_keep (ts : List Nat) {L' : Env} (hp : pickL L ts = some L') (g : Run P Q N w0 k L' h) : Run P Q N w0 k L h := fun a w hL hw => g a w (hL.pick hp) hw
theorem Run_ops {id : Nat} {l : List Oper} (g : Run P Q N w0 (.ops l 0 :: k) L h) : Run P Q N w0 (.code (.region id l.toArray false) :: k) L h :=
  fun a w hL hw => wp_region_lit (g a w hL hw)
theorem Run_nil {all : List Oper} {i : Nat} (hi : Nat.ble all.length i = true) (g : Run P Q N w0 k L h) : Run P Q N w0 (.ops all i :: k) L h := fun a w hL hw => by
  show wpList P all.toArray (den P Q k) (all.drop i) a w
  rw [List.drop_eq_nil_of_le (Nat.le_of_ble_eq_true hi)]
  exact g a w hL hw

/-! ### one operation -/
def opA (all : List Oper) (i : Nat) : Oper := (all[i]?).getD default
theorem drop_opA {all : List Oper} {i : Nat} (hi : i < all.length) : all.drop i = opA all i :: all.drop (i + 1) := by
  rw [List.drop_eq_getElem_cons hi]; simp [opA, hi]
/-- the world has a heap of the class C and the streams of w0 -/
structure AtC (w0 : World) (C : Heap → Prop) (w : World) : Prop where
  heap : C w.heap
  os : w.os = w0.os
  tape : w.tape = w0.tape
  output : w.output = w0.output
  drs : DrLe w0.drawn w.drawn
theorem At.cls {w0 w : World} {h : Heap} {C : Heap → Prop} (a : At w0 h w) (hC : C h) : AtC w0 C w := ⟨by rw [a.heap]; exact hC, a.os, a.tape, a.output, a.drs⟩
theorem AtC.at {w0 w : World} {C : Heap → Prop} (a : AtC w0 C w) : At w0 w.heap w := ⟨rfl, a.os, a.tape, a.output, a.drs⟩
theorem AtC.drawn {w0 w : World} {C : Heap → Prop} (a : AtC w0 C w) : AtC w0 C { w with drawn := w.drawn + 1 } := ⟨a.heap, a.os, a.tape, a.output, a.drs.trans (DrLe.succ _)⟩
/-- the operation o yields v, in whatever world of the class, and leaves a world of the class -/
def Y (P : Program) (w0 : World) (C : Heap → Prop) (L : Env) (o : Oper) (v : Value) : Prop :=
  ∀ w, AtC w0 C w → Oper.quietUpon P (AtC w0 C) w v ((execOp (rho L) o).run P w)
def plainOp (o : Oper) : Bool := match o.op with | .select .. => false | _ => true
theorem plainOp_ne {o : Oper} (hp : plainOp o = true) : ∀ cs b, o.op ≠ .select cs b := by
  intro cs b e; simp [plainOp, e] at hp
def wantedL (all : List Oper) (L : Env) (o : Oper) : Option Bool :=
  match o.guard with
  | none => some true
  | some (j, b) => match ((all[j]?).bind (·.dst)).bind (lk L) with
    | some (.bool c) => some (c == b)
    | some _ => some false
    | none => none
theorem wanted_of {all : List Oper} {a : Act} (hL : Has N a L) {o : Oper} {c : Bool} (hc : wantedL all L o = some c) : Region.wanted o (yielded all.toArray a.tmps) = c := by
  unfold wantedL at hc
  unfold Region.wanted
  cases hg : o.guard with
  | none => simp only [hg, Option.some.injEq] at hc; simp [← hc]
  | some g =>
    obtain ⟨j, b⟩ := g
    simp only [hg] at hc ⊢
    have key : ∀ v, ((all[j]?).bind (·.dst)).bind (lk L) = some v → ((all[j]?).bind (·.dst)).bind (a.tmps[·]?) = some v := by
      intro v hs
      cases hd : (all[j]?).bind (·.dst) with
      | none => simp [hd] at hs
      | some d =>
        simp only [hd, Option.bind_some] at hs ⊢
        have h1 := hL.slot _ (lk_mem hs)
        simp only at h1
        have := h1.2
        rw [Array.getD_eq_getD_getElem?] at this
        have hlt : d < a.tmps.size := by rw [hL.size]; exact h1.1
        rw [Array.getElem?_eq_getElem hlt] at this ⊢
        simpa using this
    split at hc
    · rename_i c' hs
      simp only [Option.some.injEq] at hc
      subst hc
      have h2 := key _ hs
      simp only [yielded, List.getElem?_toArray, h2]
      cases c' <;> cases b <;> rfl
    · rename_i v hv hs
      simp only [Option.some.injEq] at hc
      subst hc
      have h2 := key _ hs
      simp only [yielded, List.getElem?_toArray, h2]
      cases v <;> first | rfl | exact absurd rfl (hv _)
    · cases hc

theorem quiet_of_Y {C : Heap → Prop} {o : Oper} {v : Value} {a : Act} {K : Act → Prop} (hY : Y P w0 C L o v) (hL : Has N a L) (hp : plainOp o = true) (hk : knowsAll L o = true) (g : K (a.put o.dst v)) : o.quiet P a (AtC w0 C) K :=
  ⟨v, fun w hw => by unfold Oper.quietAt; rw [hL.execOp (plainOp_ne hp) hk]; exact hY w hw, g⟩

/-- operation i is there, wanted, no select; its operands are known, its slot is below N -/
def fineI (N : Nat) (all : List Oper) (L : Env) (i : Nat) : Bool :=
  Nat.blt i all.length && plainOp (opA all i) && knowsAll L (opA all i) && (match (opA all i).dst with | some d => Nat.blt d N | none => true) && (match wantedL all L (opA all i) with | some true => true | _ => false)
structure Fine (N : Nat) (all : List Oper) (L : Env) (i : Nat) : Prop where
  lt : i < all.length
  plain : plainOp (opA all i) = true
  known : knowsAll L (opA all i) = true
  dst : ∀ t, (opA all i).dst = some t → t < N
  want : wantedL all L (opA all i) = some true
theorem fine_of {all : List Oper} {i : Nat} (hf : fineI N all L i = true) : Fine N all L i := by
  simp only [fineI, Bool.and_eq_true] at hf
  obtain ⟨⟨⟨⟨h1, h2⟩, h3⟩, h4⟩, h5⟩ := hf
  refine ⟨Nat.le_of_ble_eq_true h1, h2, h3, fun t ht => ?_, ?_⟩
  · rw [ht] at h4; exact Nat.le_of_ble_eq_true h4
  · split at h5
    · assumption
    · cases h5
/-- operation i is there and its guard says no -/
def idleI (N : Nat) (all : List Oper) (L : Env) (i : Nat) : Bool := Nat.blt i all.length && (match (opA all i).dst with | some d => Nat.blt d N | none => true) && (match wantedL all L (opA all i) with | some false => true | _ => false)
theorem idle_of {all : List Oper} {i : Nat} (hf : idleI N all L i = true) : i < all.length ∧ wantedL all L (opA all i) = some false ∧ ∀ t, (opA all i).dst = some t → t < N := by
  simp only [idleI, Bool.and_eq_true] at hf
  obtain ⟨⟨h1, h2⟩, h3⟩ := hf
  refine ⟨Nat.le_of_ble_eq_true h1, ?_, fun t ht => ?_⟩
  · split at h3
    · assumption
    · cases h3
  · rw [ht] at h2; exact Nat.le_of_ble_eq_true h2

theorem Run_y {all : List Oper} {i : Nat} (v : Value) (hf : fineI N all L i = true) (hY : Y P w0 (· = h) L (opA all i) v)
    (g : Run P Q N w0 (.ops all (i + 1) :: k) (setL L (opA all i).dst v) h) : Run P Q N w0 (.ops all i :: k) L h := by
  have f := fine_of hf
  intro a w hL hW
  show wpList P all.toArray (den P Q k) (all.drop i) a w
  rw [drop_opA f.lt]
  unfold wpList
  rw [wanted_of hL f.want, if_pos rfl]
  refine .inl (Oper.wp_of_quiet (C := AtC w0 (· = h)) (K := fun a' => Has N a' (setL L (opA all i).dst v)) (hW.cls rfl)
    (fun a' w' hw' ha' => g a' w' ha' ⟨hw'.heap, hw'.os, hw'.tape, hw'.output, hw'.drs⟩) (quiet_of_Y hY hL f.plain f.known (hL.put _ _ f.dst)))
/-! ### a stretch of a region, all of it quiet in a class of heaps -/
/-- operations i .. j - 1 -/
def QRun (P : Program) (N : Nat) (w0 : World) (C : Heap → Prop) (all : List Oper) (i j : Nat) (L L' : Env) : Prop :=
  i ≤ j ∧ ∀ a (K : Act → Prop), Has N a L → (∀ a', Has N a' L' → K a') → wpQuiet P all.toArray (AtC w0 C) K ((all.drop i).take (j - i)) a
theorem wpQuiet_append {all : Array Oper} {C : World → Prop} {K : Act → Prop} : ∀ (l l' : List Oper) (a : Act), wpQuiet P all C (fun a => wpQuiet P all C K l' a) l a → wpQuiet P all C K (l ++ l') a
  | [], _, _, h => h
  | o :: l, l', a, h => by
    rw [List.cons_append]
    unfold wpQuiet at h ⊢
    split
    · rename_i hw
      rw [if_pos hw] at h
      obtain ⟨v, h1, h2⟩ := h
      exact ⟨v, h1, wpQuiet_append l l' _ h2⟩
    · rename_i hw
      rw [if_neg hw] at h
      exact wpQuiet_append l l' _ h
theorem wpQuiet_mono {all : Array Oper} {C : World → Prop} {K K' : Act → Prop} (hk : ∀ a, K a → K' a) : ∀ (l : List Oper) (a : Act), wpQuiet P all C K l a → wpQuiet P all C K' l a
  | [], a, h => hk a h
  | o :: l, a, h => by
    unfold wpQuiet at h ⊢
    split
    · rename_i hw
      rw [if_pos hw] at h
      obtain ⟨v, h1, h2⟩ := h
      exact ⟨v, h1, wpQuiet_mono hk l _ h2⟩
    · rename_i hw
      rw [if_neg hw] at h
      exact wpQuiet_mono hk l _ h
theorem take_step {all : List Oper} {i j : Nat} (hi : i < all.length) (h : i + 1 ≤ j) : (all.drop i).take (j - i) = opA all i :: (all.drop (i + 1)).take (j - (i + 1)) := by
  rw [drop_opA hi, show j - i = (j - (i + 1)) + 1 by omega, List.take_succ_cons]
section
variable {C : Heap → Prop}
theorem QRun_done {all : List Oper} {i j : Nat} (ts : List Nat) {L' : Env} (hi : Nat.beq i j = true) (hp : pickL L ts = some L') : QRun P N w0 C all i j L L' := by
  have := Nat.eq_of_beq_eq_true hi
  subst this
  refine ⟨Nat.le_refl _, fun a _ hL g => ?_⟩
  rw [Nat.sub_self, List.take_zero]
  exact g a (hL.pick hp)
theorem QRun_seq {all : List Oper} {i : Nat} (j : Nat) {l : Nat} (L1 : Env) {L2 : Env} (a : QRun P N w0 C all i j L L1) (b : QRun P N w0 C all j l L1 L2) : QRun P N w0 C all i l L L2 := by
  refine ⟨Nat.le_trans a.1 b.1, fun x K hL g => ?_⟩
  have e : (all.drop i).take (l - i) = (all.drop i).take (j - i) ++ (all.drop j).take (l - j) := by
    have h1 := a.1
    have h2 := b.1
    rw [show l - i = (j - i) + (l - j) by omega, List.take_add, List.drop_drop, show i + (j - i) = j by omega]
  rw [e]
  exact wpQuiet_append _ _ _ (wpQuiet_mono (fun x' h => h) _ _ (a.2 x _ hL fun x' hL' => b.2 x' K hL' g))
theorem QRun_y {all : List Oper} {i j : Nat} {L' : Env} (v : Value) (hf : fineI N all L i = true) (hY : Y P w0 C L (opA all i) v)
    (g : QRun P N w0 C all (i + 1) j (setL L (opA all i).dst v) L') : QRun P N w0 C all i j L L' := by
  have f := fine_of hf
  refine ⟨Nat.le_of_succ_le g.1, fun a K hL hK => ?_⟩
  rw [take_step f.lt g.1]
  unfold wpQuiet
  rw [wanted_of hL f.want, if_pos rfl]
  exact quiet_of_Y hY hL f.plain f.known (g.2 _ K (hL.put _ _ f.dst) hK)
theorem QRun_n {all : List Oper} {i j : Nat} {L' : Env} (hf : idleI N all L i = true) (g : QRun P N w0 C all (i + 1) j (setL L (opA all i).dst undef) L') : QRun P N w0 C all i j L L' := by
  obtain ⟨f1, f2, f3⟩ := idle_of hf
  refine ⟨Nat.le_of_succ_le g.1, fun a K hL hK => ?_⟩
  rw [take_step f1 g.1]
  unfold wpQuiet
  rw [wanted_of hL f2, if_neg (by simp)]
  exact g.2 _ K (hL.put _ _ f3) hK
theorem Run_drawC {id : Nat} {l : List Oper} {L' : Env} {j : Nat} (hm : P.follows .mixedOrders = true) (hB : Region.lexB .any l.toArray = true) (hj : Nat.ble l.length j = true) (hC : C h)
    (q : QRun P N w0 C l 0 j L L') (g : ∀ h', C h' → Run P Q N w0 k L' h') : Run P Q N w0 (.code (.region id l.toArray true) :: k) L h := by
  intro a w hL hW
  refine wp_region_quiet (C := AtC w0 C) hm hB ((hW.cls hC).drawn) ?_
  have := q.2 a (fun a' => ∀ w', AtC w0 C w' → den P Q k .normal a' w') hL (fun a' ha' w' hw' => g w'.heap hw'.heap a' w' ha' hw'.at)
  rw [List.drop_zero, List.take_of_length_le (by simpa using Nat.le_of_ble_eq_true hj)] at this
  exact this
/-- a stretch without effect, in the midst of a region -/
theorem wpList_of_stretch {all : Array Oper} {K : Act → Prop} (l' : List Oper) (hK : ∀ a w, AtC w0 C w → K a → wpList P all (den P Q k) l' a w) : ∀ (rest : List Oper) (a : Act) (w : World), AtC w0 C w → wpQuiet P all (AtC w0 C) K rest a → wpList P all (den P Q k) (rest ++ l') a w
  | [], a, w, hw, g => hK a w hw g
  | o :: rest, a, w, hw, g => by
    unfold wpQuiet at g
    rw [List.cons_append]
    unfold wpList
    split
    · rename_i hwt
      rw [if_pos hwt] at g
      exact .inl (Oper.wp_of_quiet hw (fun a' w' hw' ga => wpList_of_stretch l' hK rest a' w' hw' ga) g)
    · rename_i hwt
      rw [if_neg hwt] at g
      exact wpList_of_stretch l' hK rest _ w hw g
theorem Run_q {all : List Oper} {i : Nat} (j : Nat) {L' : Env} (hC : C h) (q : QRun P N w0 C all i j L L') (g : ∀ h', C h' → Run P Q N w0 (.ops all j :: k) L' h') : Run P Q N w0 (.ops all i :: k) L h := by
  intro a w hL hW
  show wpList P all.toArray (den P Q k) (all.drop i) a w
  have e : all.drop i = (all.drop i).take (j - i) ++ all.drop j := by
    have h1 := q.1
    conv => lhs; rw [← List.take_append_drop (j - i) (all.drop i), List.drop_drop, show i + (j - i) = j by omega]
  rw [e]
  exact wpList_of_stretch (C := C) (K := fun a' => Has N a' L') _ (fun a' w' hw' ha' => g w'.heap hw'.heap a' w' ha' hw'.at) _ a w (hW.cls hC) (q.2 a _ hL fun a' ha' => ha')
theorem Run_regC {id : Nat} {l : List Oper} {L' : Env} {j : Nat} (hj : Nat.ble l.length j = true) (hC : C h) (q : QRun P N w0 C l 0 j L L') (g : ∀ h', C h' → Run P Q N w0 k L' h') : Run P Q N w0 (.code (.region id l.toArray false) :: k) L h :=
  Run_ops (Run_q j hC q fun h' hC' => Run_nil hj (g h' hC'))
end
theorem Run_draw {id : Nat} {l : List Oper} {L' : Env} (j : Nat) (hm : P.follows .mixedOrders = true) (hB : Region.lexB .any l.toArray = true) (hj : Nat.ble l.length j = true)
    (q : QRun P N w0 (· = h) l 0 j L L') (g : Run P Q N w0 k L' h) : Run P Q N w0 (.code (.region id l.toArray true) :: k) L h := Run_drawC (C := (· = h)) hm hB hj rfl q (fun h' e => by rw [e]; exact g)
theorem Run_reg {id : Nat} {l : List Oper} {L' : Env} (j : Nat) (hj : Nat.ble l.length j = true) (q : QRun P N w0 (· = h) l 0 j L L') (g : Run P Q N w0 k L' h) : Run P Q N w0 (.code (.region id l.toArray false) :: k) L h :=
  Run_regC (C := (· = h)) hj rfl q (fun h' e => by rw [e]; exact g)

/-! ### plain operations, many at once: what the model itself reckons -/
theorem Y_pure {C : Heap → Prop} {o : Oper} {v : Value} (e : ∀ w, (execOp (rho L) o).run P w = .ok (.value v) w) : Y P w0 C L o v := fun w _ => by rw [e w]; exact ⟨rfl, rfl⟩
/-- .. what it reckons is another spelling of v -/
theorem Y_eq {C : Heap → Prop} {o : Oper} {v v' : Value} (y : Y P w0 C L o v) (e : v = v') : Y P w0 C L o v' := e ▸ y
theorem Y_bool {C : Heap → Prop} {o : Oper} {b c : Bool} (e : ∀ w, (execOp (rho L) o).run P w = .ok (.value (.bool b)) w) (hb : b = c) : Y P w0 C L o (.bool c) := Y_eq (Y_pure e) (by rw [hb])
def fineB (N : Nat) (all : List Oper) : Nat → List Value → Env → Bool
  | i, v :: vs, L => fineI N all L i && fineB N all (i + 1) vs (setL L (opA all i).dst v)
  | _, [], _ => true
def evB (P : Program) (w : World) (all : List Oper) : Nat → List Value → Env → List (Result Next)
  | i, v :: vs, L => (execOp (rho L) (opA all i)).run P w :: evB P w all (i + 1) vs (setL L (opA all i).dst v)
  | _, [], _ => []
def okB (w : World) : List Value → List (Result Next)
  | v :: vs => .ok (.value v) w :: okB w vs
  | [] => []
def setB (all : List Oper) : Nat → List Value → Env → Env
  | i, v :: vs, L => setB all (i + 1) vs (setL L (opA all i).dst v)
  | _, [], L => L
def addB : Nat → List Value → Nat
  | i, _ :: vs => addB (i + 1) vs
  | i, [] => i
theorem QRun_b {C : Heap → Prop} {all : List Oper} {j : Nat} {L' : Env} : ∀ (vs : List Value) (i : Nat) (L : Env), fineB N all i vs L = true → (∀ w, evB P w all i vs L = okB w vs) →
    QRun P N w0 C all (addB i vs) j (setB all i vs L) L' → QRun P N w0 C all i j L L'
  | [], _, _, _, _, g => g
  | v :: vs, i, L, hf, he, g => by
    simp only [fineB, Bool.and_eq_true] at hf
    exact QRun_y v hf.1 (Y_pure fun w => by have := he w; simp only [evB, okB, List.cons.injEq] at this; exact this.1)
      (QRun_b vs (i + 1) _ hf.2 (fun w => by have := he w; simp only [evB, okB, List.cons.injEq] at this; exact this.2) g)
theorem Run_b {all : List Oper} : ∀ (vs : List Value) (i : Nat) (L : Env), fineB N all i vs L = true → (∀ w, evB P w all i vs L = okB w vs) →
    Run P Q N w0 (.ops all (addB i vs) :: k) (setB all i vs L) h → Run P Q N w0 (.ops all i :: k) L h
  | [], _, _, _, _, g => g
  | v :: vs, i, L, hf, he, g => by
    simp only [fineB, Bool.and_eq_true] at hf
    exact Run_y v hf.1 (Y_pure fun w => by have := he w; simp only [evB, okB, List.cons.injEq] at this; exact this.1)
      (Run_b vs (i + 1) _ hf.2 (fun w => by have := he w; simp only [evB, okB, List.cons.injEq] at this; exact this.2) g)

/-! ### loops -/
theorem wp_loopE {c : Code} (I : Nat → Act → World → Prop)
    (round : ∀ m a w, I m a w → c.wp P (Exit.then (fun a' w' => ∃ m', m' < m ∧ I m' a' w') Q) a w) (m : Nat) (a : Act) (w : World) (h0 : I m a w) : (Code.loop c).wp P Q a w := by
  intro b k cs
  have key : ∀ m a w, I m a w → ∃ e a' w', Q e a' w' ∧ Arrives P (lone (b.at a (.code c :: .inLoop c :: k)) cs w) b k cs e a' w' := by
    intro m
    induction m using Nat.strongRecOn with
    | _ m ih =>
      intro a w hI
      obtain ⟨e, a₁, w₁, hq, harr⟩ := round m a w hI b (.inLoop c :: k) cs
      cases e with
      | normal =>
        obtain ⟨m', hlt, hI₁⟩ := hq
        obtain ⟨e₂, a₂, w₂, hq₂, harr₂⟩ := ih m' hlt a₁ w₁ hI₁
        exact ⟨e₂, a₂, w₂, hq₂, .of_steps (Steps.trans harr (.one step_inLoop)) harr₂⟩
      | exit id => exact ⟨_, a₁, w₁, hq, .pass (x := .inLoop c) rfl (fun _ _ => .inl (by simp)) harr⟩
      | goto l => exact ⟨_, a₁, w₁, hq, .pass (x := .inLoop c) rfl (fun _ _ => .inl (by simp)) harr⟩
      | ret => exact ⟨_, a₁, w₁, hq, .pass (x := .inLoop c) rfl (fun _ _ => .inl (by simp)) harr⟩
      | panic ch => exact ⟨_, a₁, w₁, hq, .pass (x := .inLoop c) rfl (fun _ _ => .inl (by simp)) harr⟩
      | outgrown => exact ⟨_, a₁, w₁, hq, .pass (x := .inLoop c) rfl (fun _ _ => .inl (by simp)) harr⟩
  obtain ⟨e, a', w', hq, harr⟩ := key m a w h0
  exact ⟨e, a', w', hq, .of_steps (.one step_loop) harr⟩

theorem Run_loop {c : Code} (I : Nat → Env → Heap → Prop) (m : Nat) (h0 : I m L h)
    (step : ∀ m L h, I m L h → Run P Q N w0 (.code c :: .again (fun a w => ∃ m', m' < m ∧ ∃ L' h', I m' L' h' ∧ Has N a L' ∧ At w0 h' w) :: k) L h) : Run P Q N w0 (.code (.loop c) :: k) L h := by
  intro a w hL hW
  refine wp_loopE (fun m a w => ∃ L' h', I m L' h' ∧ Has N a L' ∧ At w0 h' w) ?_ m a w ⟨L, h, h0, hL, hW⟩
  rintro m a w ⟨L', h', hI, hL', hW'⟩
  exact step m L' h' hI a w hL' hW'
/-- a loop of a few rounds, one after the other -/
theorem Run_loopK {c : Code} (n : Nat) (g : Run P Q N w0 (.code c :: .again (Code.rounds P c (den P Q k) n) :: k) L h) : Run P Q N w0 (.code (.loop c) :: k) L h :=
  fun a w hL hW => wp_loop_rounds (n + 1) (g a w hL hW)
theorem Run_round {c : Code} {n : Nat} (g : Run P Q N w0 (.code c :: .again (Code.rounds P c (den P Q k) n) :: k) L h) : Run P Q N w0 (.again (Code.rounds P c (den P Q k) (n + 1)) :: k) L h :=
  fun a w hL hW => g a w hL hW
/-- where ways meet again -/
theorem Run_join {x : Code} (R : Env → Heap → Prop) (J : ∀ L' h', R L' h' → Run P Q N w0 k L' h')
    (g : Run P Q N w0 (.code x :: .again (fun a w => ∃ L' h', R L' h' ∧ Has N a L' ∧ At w0 h' w) :: k) L h) : Run P Q N w0 (.code x :: k) L h := by
  intro a w hL hW
  refine wp_mono (g a w hL hW) (fun e a' w' q => ?_)
  cases e with
  | normal =>
    obtain ⟨L', h', hR, hL', hW'⟩ := q
    exact J L' h' hR a' w' hL' hW'
  | _ => exact q
theorem Run_fall {R : Env → Heap → Prop} (ts : List Nat) {L' : Env} (hp : pickL L ts = some L') (hR : R L' h) :
    Run P Q N w0 (.again (fun a w => ∃ L' h', R L' h' ∧ Has N a L' ∧ At w0 h' w) :: k) L h := fun _ _ hL hW => ⟨L', h, hR, hL.pick hp, hW⟩
theorem Run_again {I : Nat → Env → Heap → Prop} {m : Nat} (ts : List Nat) {L' : Env} (hp : pickL L ts = some L') (m' : Nat) (hm : m' < m) (hI : I m' L' h) :
    Run P Q N w0 (.again (fun a w => ∃ m', m' < m ∧ ∃ L' h', I m' L' h' ∧ Has N a L' ∧ At w0 h' w) :: k) L h := fun _ _ hL hW => ⟨m', hm, L', h, hI, hL.pick hp, hW⟩

end

/-! ### contracts -/
/-- in whatever world that has the heap h, function f, called with args, returns some value, and leaves some heap: as Post says; the streams stay -/
def Fn (P : Program) (f : FuncId) (args : Array Value) (h : Heap) (Post : Value → Heap → Prop) : Prop :=
  (match P.funcs[f]? with | some fn => fn.body.isSome && (fn.name != "runtime.NumGoroutine") | none => false) = true ∧
  ∀ w, w.heap = h → Calls P f args w fun e w' => ∃ v h', e = .returned v ∧ At w h' w' ∧ Post v h'
theorem Fn.mono {P : Program} {f : FuncId} {args : Array Value} {h : Heap} {Post Post' : Value → Heap → Prop} (c : Fn P f args h Post) (hp : ∀ v h', Post v h' → Post' v h') : Fn P f args h Post' :=
  ⟨c.1, fun w hw => (c.2 w hw).mono fun _ _ ⟨v, h', a, b, d⟩ => ⟨v, h', a, b, hp v h' d⟩⟩

theorem run_callFunc {P : Program} {f : FuncId} (args : Array Value) (w : World)
    (hb : (match P.funcs[f]? with | some fn => fn.body.isSome && (fn.name != "runtime.NumGoroutine") | none => false) = true) :
    (callFunc f args).run P w = .ok (.enter f args) w := by
  cases hf : P.funcs[f]? with
  | none => simp [hf] at hb
  | some fn =>
    simp only [hf, Bool.and_eq_true] at hb
    obtain ⟨h1, h2⟩ := hb
    have h3 : ¬ fn.name = "runtime.NumGoroutine" := by simpa using h2
    have h4 : ¬ fn.body = none := by intro e; simp [e] at h1
    simp [callFunc, program, Sem.run, hf, h3, h4]

theorem Y_call {P : Program} {w0 : World} {C : Heap → Prop} {L : Env} {o : Oper} {f : FuncId} {args : Array Value} {v : Value} (he : execOp (rho L) o = callFunc f args) (c : ∀ h, C h → Fn P f args h fun u h' => u = v ∧ C h') : Y P w0 C L o v := by
  intro w hw
  have c := c w.heap hw.heap
  rw [he, run_callFunc args w c.1]
  refine ⟨rfl, ((c.2 w rfl).mono ?_)⟩
  rintro e w' ⟨u, h', rfl, ha, rfl, hC⟩
  exact ⟨rfl, (hw.at.trans ha).cls hC⟩
/-- a call that leaves the heap as it was -/
theorem Y_callq {P : Program} {w0 : World} {h : Heap} {L : Env} {o : Oper} {f : FuncId} {args : Array Value} {v : Value} (he : execOp (rho L) o = callFunc f args) (c : Fn P f args h fun u h' => u = v ∧ h' = h) : Y P w0 (· = h) L o v :=
  Y_call he fun h' e => by subst e; exact c

/-- entering a function -/
def envOf : Nat → List Value → Env
  | i, v :: vs => (i, v) :: envOf (i + 1) vs
  | _, [] => []
theorem envOf_mem : ∀ (vs : List Value) (i : Nat), ∀ p ∈ envOf i vs, i ≤ p.1 ∧ vs[p.1 - i]? = some p.2
  | [], _, p, hp => by cases hp
  | v :: vs, i, p, hp => by
    simp only [envOf, List.mem_cons] at hp
    rcases hp with rfl | hp
    · simp
    · obtain ⟨h1, h2⟩ := envOf_mem vs (i + 1) p hp
      refine ⟨by omega, ?_⟩
      rw [show p.1 - i = (p.1 - (i + 1)) + 1 by omega]
      simpa using h2
theorem Fn_enter {P : Program} {f : FuncId} {fn : Func} {c : Code} {args : List Value} {h : Heap} {Post : Value → Heap → Prop} (hf : P.funcs[f]? = some fn) (hb : fn.body = some c)
    (hn : (fn.name != "runtime.NumGoroutine") = true) (hs : Nat.ble args.length fn.ntmps = true)
    (g : ∀ w0 : World, w0.heap = h → Run P (bodyPost P fn fun e w' => ∃ v h', e = .returned v ∧ At w0 h' w' ∧ Post v h') fn.ntmps w0 [.code c] (envOf 0 args) h) : Fn P f args.toArray h Post := by
  refine ⟨by simp [hf, hb, hn], fun w hw => ?_⟩
  refine calls_of_wp hf hb ?_
  have hs := Nat.le_of_ble_eq_true hs
  have hh : Has fn.ntmps { tmps := args.toArray ++ Array.replicate (fn.ntmps - args.toArray.size) undef, defers := [] } (envOf 0 args) := by
    refine ⟨rfl, by simp; omega, fun p hp => ?_⟩
    obtain ⟨_, h2⟩ := envOf_mem args 0 p hp
    simp only [Nat.sub_zero] at h2
    have hlt := (List.getElem?_eq_some_iff.1 h2).1
    refine ⟨by omega, ?_⟩
    rw [Array.getD_eq_getD_getElem?, Array.getElem?_append_left (by simpa using hlt)]
    simp [h2]
  have := g w hw _ w hh (by rw [← hw]; exact At.refl w)
  refine wp_mono (show c.wp P (den P _ []) _ _ from this) (fun e a w q => ?_)
  exact q
end Go.Proofs.YtfhphkiggdepaaaDoor
