/-
  Effects, and regions whose order is drawn: one walk that takes the operations without effect first serves every order.
-/
import Derived.Test.YtfhphkiggdepaaaDoorMem
namespace Go.Proofs.YtfhphkiggdepaaaDoor
open Go

/-! ### effects -/
/-- operation o, from the heap h, yields some value and leaves some heap: as K says -/
def Eff (P : Program) (w0 : World) (L : Env) (h : Heap) (o : Oper) (K : Value → Heap → Prop) : Prop :=
  ∀ w, At w0 h w →
    (∃ v w' h', ((execOp (rho L) o).run P w = .ok (.value v) w' ∨ (v = undef ∧ (execOp (rho L) o).run P w = .ok .skip w')) ∧ At w0 h' w' ∧ K v h') ∨
    (∃ f args, (execOp (rho L) o).run P w = .ok (.enter f args) w ∧ Calls P f args w fun e w' => ∃ v h', e = .returned v ∧ At w0 h' w' ∧ K v h')
section
variable {P : Program} {Q : Exit → Act → World → Prop} {N : Nat} {w0 : World} {k : List Ctl} {L : Env} {h : Heap}
theorem Eff.mono {o : Oper} {K K' : Value → Heap → Prop} (e : Eff P w0 L h o K) (hk : ∀ v h', K v h' → K' v h') : Eff P w0 L h o K' := fun w hw => by
  rcases e w hw with ⟨v, w', h', h1, h2, h3⟩ | ⟨f, args, h1, h2⟩
  · exact .inl ⟨v, w', h', h1, h2, hk _ _ h3⟩
  · exact .inr ⟨f, args, h1, h2.mono fun _ _ ⟨v, h', a, b, c⟩ => ⟨v, h', a, b, hk _ _ c⟩⟩
theorem Eff.upon {o : Oper} {K : Value → Heap → Prop} (e : Eff P w0 L h o K) {a : Act} {w : World} (hL : Has N a L) (hW : At w0 h w) (hp : plainOp o = true) (hk : knowsAll L o = true) {K' : Act → World → Prop}
    (g : ∀ v h' w', K v h' → At w0 h' w' → K' (a.put o.dst v) w') : o.wp P a w K' Q := by
  unfold Oper.wp
  rw [hL.execOp (plainOp_ne hp) hk]
  rcases e w hW with ⟨v, w', h', hr, hA, hK⟩ | ⟨f, args, hr, hc⟩
  · rcases hr with hr | ⟨rfl, hr⟩
    · rw [hr]; exact g v h' w' hK hA
    · rw [hr]; exact g _ h' w' hK hA
  · rw [hr]
    refine hc.mono ?_
    rintro e w' ⟨v, h', rfl, hA, hK⟩
    exact g v h' w' hK hA
theorem Run_E {all : List Oper} {i : Nat} (hf : fineI N all L i = true) (e : Eff P w0 L h (opA all i) fun v h' => Run P Q N w0 (.ops all (i + 1) :: k) (setL L (opA all i).dst v) h') : Run P Q N w0 (.ops all i :: k) L h := by
  have f := fine_of hf
  intro a w hL hW
  show wpList P all.toArray (den P Q k) (all.drop i) a w
  rw [drop_opA f.lt]
  unfold wpList
  rw [wanted_of hL f.want, if_pos rfl]
  exact .inl (e.upon hL hW f.plain f.known fun v h' w' hK hA => hK _ w' (hL.put _ _ f.dst) hA)
/-- a call -/
theorem E_call {o : Oper} {f : FuncId} {args : Array Value} {Post K : Value → Heap → Prop} (c : Fn P f args h Post) (he : execOp (rho L) o = callFunc f args) (g : ∀ v h', Post v h' → K v h') : Eff P w0 L h o K := fun w hW => by
  refine .inr ⟨f, args, by rw [he]; exact run_callFunc args w c.1, (c.2 w hW.heap).mono ?_⟩
  rintro e w' ⟨v, h', rfl, hA, hP⟩
  exact ⟨v, h', rfl, hW.trans hA, g _ _ hP⟩
/-- one run of the model, told -/
theorem E_run {o : Oper} {K : Value → Heap → Prop} (e : ∀ w, At w0 h w → ∃ v w' h', ((execOp (rho L) o).run P w = .ok (.value v) w' ∨ (v = undef ∧ (execOp (rho L) o).run P w = .ok .skip w')) ∧ At w0 h' w' ∧ K v h') : Eff P w0 L h o K :=
  fun w hw => .inl (e w hw)
/-- a new block: a literal, a variable -/
theorem E_new {o : Oper} {K : Value → Heap → Prop} (v : Nat → Value) (b : Obj) (he : ∀ w, (execOp (rho L) o).run P w = .ok (.value (v w.heap.size)) (w.alloc b)) (g : ∀ h', h' = h.push b → K (v h.size) h') : Eff P w0 L h o K :=
  E_run fun w hw => ⟨v w.heap.size, w.alloc b, h.push b, .inl (he w), ⟨by show w.heap.push b = _; rw [hw.heap], hw.os, hw.tape, hw.output, hw.drs⟩, by rw [hw.heap]; exact g _ rfl⟩
end

/-! ### whatever order is drawn -/
theorem wp_of_quietAt {P : Program} {o : Oper} {a : Act} {C : World → Prop} {v : Value} {K' : Act → World → Prop} {Q' : Exit → Act → World → Prop} {w : World} (hw : C w) (h1 : o.quietAt P a C w v) (h : ∀ w', C w' → K' (a.put o.dst v) w') : o.wp P a w K' Q' := by
  unfold Oper.quietAt at h1
  unfold Oper.wp
  generalize (execOp a.eval o).run P w = r at *
  cases r with
  | ok n w' =>
    cases n <;> simp only [Oper.quietUpon] at h1 <;> simp only [Oper.upon]
    case value u =>
      obtain ⟨e1, e2⟩ := h1
      rw [e1, e2]
      exact h _ hw
    case skip =>
      obtain ⟨e1, e2⟩ := h1
      subst e2
      rw [e1]
      exact h _ hw
    case enter f args =>
      obtain ⟨e1, e2⟩ := h1
      subst e1
      refine e2.mono ?_
      rintro e w'' ⟨rfl, h3⟩
      exact h _ h3
  | halt x w' => simp only [Oper.quietUpon] at h1
section
variable (P : Program) (ops : Array Oper) (Q : Exit → Act → World → Prop) (w0 : World)
/-- one value, whatever heap of the class D; blocks may be added -/
def YX (D : Heap → Prop) (o : Oper) (v : Value) (a : Act) : Prop :=
  (Region.wanted o (yielded ops a.tmps) = true ∧ ∀ h, D h → ∀ w, AtC w0 (· = h) w → o.quietAt P a (AtC w0 (Ext h)) w v) ∨
  (Region.wanted o (yielded ops a.tmps) = false ∧ v = undef)
def Stable (C : Heap → Prop) : Prop := ∀ h h', C h → Ext h h' → C h'
/-- an effect -/
def EX (o : Oper) (a : Act) (w : World) (K : Value → Heap → Prop) : Prop :=
  Region.wanted o (yielded ops a.tmps) = true ∧
  ((∃ v w' h', ((execOp a.eval o).run P w = .ok (.value v) w' ∨ (v = undef ∧ (execOp a.eval o).run P w = .ok .skip w')) ∧ At w0 h' w' ∧ K v h') ∨
   (∃ f args, (execOp a.eval o).run P w = .ok (.enter f args) w ∧ Calls P f args w fun e w' => ∃ v h', e = .returned v ∧ At w0 h' w' ∧ K v h'))
/-- some listed operation has waited for i -/
def waits (listed : Array Bool) (i : Nat) : Bool := (List.range listed.size).any fun j => listed.getD j false && (match ops[j]? with | some o => o.after.toList.any (fun e => Region.binds .any e && Nat.beq e.on i) | none => false)
def tailOK (listed : Array Bool) : Bool := (List.range listed.size).all fun i => !listed.getD i false || waits ops listed i || (match Region.ready .any ops (listed.setIfInBounds i false) with | [j] => Nat.beq j i | _ => false)
/-- what a listed operation has waited for is listed -/
def Closed (listed : Array Bool) : Prop := ∀ j o, ops[j]? = some o → listed.getD j false = true → ∀ e ∈ o.after, Region.binds .any e = true → listed.getD e.on false = true
def closedB (listed : Array Bool) : Bool := (List.range listed.size).all fun j => !listed.getD j false || (match ops[j]? with | some o => o.after.all (fun e => !(Region.binds .any e) || listed.getD e.on false) | none => true)
/-- D: what the operations without effect lean on; C: what is known of the heap -/
def Mix : Nat → (Heap → Prop) → (Heap → Prop) → Array Bool → Act → Prop
  | 0, _, C, listed, a => Region.ready .any ops listed = [] ∧ ∀ w, AtC w0 C w → Q .normal a w
  | fuel + 1, D, C, listed, a =>
    (Region.ready .any ops listed ≠ [] ∧ ∀ i ∈ Region.ready .any ops listed, ∀ o, ops[i]? = some o →
      (∃ v, YX P ops w0 D o v a ∧ Mix fuel D C (listed.setIfInBounds i true) (a.put o.dst v)) ∨
      (∀ w, AtC w0 C w → EX P ops w0 o a w fun v h' => ∃ D' C' : Heap → Prop, C' h' ∧ Stable C' ∧ (∀ h, C' h → D' h) ∧ (∀ h, D' h → D h) ∧ Mix fuel D' C' (listed.setIfInBounds i true) (a.put o.dst v))) ∨
    (tailOK ops listed = true ∧ ∀ w, AtC w0 C w → wpAny P .any ops Q (fuel + 1) listed a w)
end
section
variable {P : Program} {ops : Array Oper} {Q : Exit → Act → World → Prop} {w0 : World}
theorem YX.sub {C C' : Heap → Prop} {o : Oper} {v : Value} {a : Act} (y : YX P ops w0 C o v a) (hs : ∀ h, C' h → C h) : YX P ops w0 C' o v a := y.imp (fun ⟨h1, h2⟩ => ⟨h1, fun h hC => h2 h (hs h hC)⟩) id
theorem YX.of_same {C : Heap → Prop} {o : Oper} {v : Value} {a a' : Act} (hy : YX P ops w0 C o v a) (he : execOp a'.eval o = execOp a.eval o)
    (hw : Region.wanted o (yielded ops a'.tmps) = Region.wanted o (yielded ops a.tmps)) : YX P ops w0 C o v a' := by
  unfold YX Oper.quietAt at *
  rw [he, hw]
  exact hy
theorem EX.mono {o : Oper} {a : Act} {w : World} {K K' : Value → Heap → Prop} (e : EX P ops w0 o a w K) (hk : ∀ v h', K v h' → K' v h') : EX P ops w0 o a w K' :=
  ⟨e.1, e.2.imp (fun ⟨v, w', h', h1, h2, h3⟩ => ⟨v, w', h', h1, h2, hk _ _ h3⟩) (fun ⟨f, args, h1, h2⟩ => ⟨f, args, h1, h2.mono fun _ _ ⟨v, h', a, b, c⟩ => ⟨v, h', a, b, hk _ _ c⟩⟩)⟩
theorem EX.of_same {o : Oper} {a a' : Act} {w : World} {K : Value → Heap → Prop} (e : EX P ops w0 o a w K) (he : execOp a'.eval o = execOp a.eval o)
    (hw : Region.wanted o (yielded ops a'.tmps) = Region.wanted o (yielded ops a.tmps)) : EX P ops w0 o a' w K := by
  unfold EX at *
  rw [he, hw]
  exact e
theorem YX.wpOp {C : Heap → Prop} {i : Nat} {o : Oper} {v : Value} {a : Act} (hi : ops[i]? = some o) (hy : YX P ops w0 C o v a) {w : World} (hC : AtC w0 C w) {K : Act → World → Prop} (g : ∀ w', AtC w0 (Ext w.heap) w' → K (a.put o.dst v) w') : wpOp P ops Q i K a w := by
  unfold Go.wpOp
  simp only [hi]
  rcases hy with ⟨hw, hv⟩ | ⟨hw, rfl⟩
  · simp only [hw, if_true]
    exact .inl (wp_of_quietAt (C := AtC w0 (Ext w.heap)) ⟨Fr.refl _ _, hC.os, hC.tape, hC.output, hC.drs⟩ (hv w.heap hC.heap w ⟨rfl, hC.os, hC.tape, hC.output, hC.drs⟩) g)
  · simp only [hw, Bool.false_eq_true, if_false]; exact g w ⟨Fr.refl _ _, hC.os, hC.tape, hC.output, hC.drs⟩
theorem EX.wpOp {i : Nat} {o : Oper} {a : Act} (hi : ops[i]? = some o) {w : World} {K : Value → Heap → Prop} (e : EX P ops w0 o a w K) {K' : Act → World → Prop} (g : ∀ v h' w', K v h' → At w0 h' w' → K' (a.put o.dst v) w') : wpOp P ops Q i K' a w := by
  obtain ⟨hw, e⟩ := e
  unfold Go.wpOp
  simp only [hi, hw, if_true]
  refine .inl ?_
  unfold Oper.wp
  rcases e with ⟨v, w', h', hr, hA, hK⟩ | ⟨f, args, hr, hc⟩
  · rcases hr with hr | ⟨rfl, hr⟩
    · rw [hr]; exact g v h' w' hK hA
    · rw [hr]; exact g _ h' w' hK hA
  · rw [hr]
    refine hc.mono ?_
    rintro e w' ⟨v, h', rfl, hA, hK⟩
    exact g v h' w' hK hA
theorem mix_sound : ∀ (fuel : Nat) (D C : Heap → Prop) (listed : Array Bool) (a : Act), Stable C → (∀ h, C h → D h) → Mix P ops Q w0 fuel D C listed a → ∀ w, AtC w0 C w → wpAny P .any ops Q fuel listed a w
  | 0, _, _, _, _, _, _, h, w, hw => ⟨h.1, h.2 w hw⟩
  | fuel + 1, D, C, listed, a, hs, hd, h, w, hw => by
    rcases h with ⟨hne, h⟩ | ⟨_, h⟩
    · refine ⟨fun h0 => absurd h0 hne, fun i hi => ?_⟩
      obtain ⟨_, o, ho, _⟩ := mem_ready.1 hi
      rcases h i hi o ho with ⟨v, hy, hm⟩ | he
      · exact hy.wpOp ho ⟨hd _ hw.heap, hw.os, hw.tape, hw.output, hw.drs⟩ fun w' hA => mix_sound fuel D C _ _ hs hd hm w' ⟨hs _ _ hw.heap hA.heap, hA.os, hA.tape, hA.output, hA.drs⟩
      · exact (he w hw).wpOp ho fun v h' w' ⟨D', C', hC', hs', hd', _, hm⟩ hA => mix_sound fuel D' C' _ _ hs' hd' hm w' (hA.cls hC')
    · exact h w hw
theorem set_back {listed : Array Bool} {i : Nat} (h : listed.getD i true = false) : (listed.setIfInBounds i true).setIfInBounds i false = listed := by
  have hlt : i < listed.size := by
    rcases Nat.lt_or_ge i listed.size with h' | h'
    · exact h'
    · simp [Array.getElem?_eq_none h'] at h
  apply Array.ext
  · simp
  · intro j h1 h2
    by_cases e : i = j
    · subst e; simp [hlt] at h; simp [h]
    · have e1 : (((listed.setIfInBounds i true).setIfInBounds i false)[j]'h1 : Bool) = listed[j] := by
        rw [Array.getElem_setIfInBounds_ne (by simpa using h2) e, Array.getElem_setIfInBounds_ne h2 e]
      exact e1
theorem getD_in {listed : Array Bool} {j : Nat} (h : listed.getD j false = true) : j < listed.size := by
  rcases Nat.lt_or_ge j listed.size with h' | h'
  · exact h'
  · simp [Array.getElem?_eq_none h'] at h
theorem closedB_spec {listed : Array Bool} (h : closedB ops listed = true) : Closed ops listed := by
  intro j o ho hj e he hb
  have h1 := List.all_eq_true.1 h j (List.mem_range.2 (getD_in hj))
  simp only [hj, ho, Bool.not_true, Bool.false_or, Array.all_eq_true_iff_forall_mem] at h1
  have h2 := h1 e he
  simpa [hb] using h2
theorem Closed.set {listed : Array Bool} {i : Nat} (h : Closed ops listed) (hr : i ∈ Region.ready .any ops listed) : Closed ops (listed.setIfInBounds i true) := by
  intro j o ho hj e he hb
  refine getD_set_true ?_
  by_cases hji : j = i
  · subst hji
    obtain ⟨_, o', ho', hall⟩ := mem_ready.1 hr
    rw [ho] at ho'; cases ho'
    exact hall e he hb
  · rw [getD_set_ne false (Ne.symm hji)] at hj
    exact h j o ho hj e he hb
theorem tail_first {i : Nat} {listed : Array Bool} (hcl : Closed ops listed) (hr : i ∈ Region.ready .any ops listed) (ht : tailOK ops (listed.setIfInBounds i true) = true) : Region.ready .any ops listed = [i] := by
  have hun := (mem_ready.1 hr).1
  have hlt : i < listed.size := by
    rcases Nat.lt_or_ge i listed.size with h' | h'
    · exact h'
    · simp [Array.getElem?_eq_none h'] at hun
  have hun' : listed.getD i false = false := by simpa [hlt] using hun
  have h1 := List.all_eq_true.1 ht i (List.mem_range.2 (by simpa using hlt))
  simp only [set_back hun] at h1
  have h2 : (listed.setIfInBounds i true).getD i false = true := by simp [hlt]
  have h3 : waits ops (listed.setIfInBounds i true) i = false := by
    rw [Bool.eq_false_iff]
    intro hw
    obtain ⟨j, _, hj⟩ := List.any_eq_true.1 hw
    simp only [Bool.and_eq_true] at hj
    obtain ⟨hj, hd⟩ := hj
    cases ho : ops[j]? with
    | none => rw [ho] at hd; cases hd
    | some o =>
      rw [ho] at hd
      obtain ⟨e, he, hd⟩ := List.any_eq_true.1 hd
      have he := Array.mem_toList_iff.1 he
      simp only [Bool.and_eq_true] at hd
      obtain ⟨hb, hon⟩ := hd
      have hon := Nat.eq_of_beq_eq_true hon
      have h4 : listed.getD i false = true := by
        by_cases hji : j = i
        · subst hji
          obtain ⟨_, o', ho', hall⟩ := mem_ready.1 hr
          rw [ho] at ho'; cases ho'
          rw [← hon]
          exact hon ▸ hall e he hb
        · rw [getD_set_ne false (Ne.symm hji)] at hj
          exact hon ▸ hcl j o ho hj e he hb
      rw [hun'] at h4; cases h4
  simp only [h2, h3, Bool.not_true, Bool.false_or] at h1
  split at h1
  · rename_i j hj
    rw [hj, Nat.eq_of_beq_eq_true h1]
  · cases h1
/-- **an operation without effect that may come up now may be taken first** -/
theorem mix_first {i : Nat} {oi : Oper} {v : Value} (hi : ops[i]? = some oi) (hsel : ∀ (j : Nat) (o : Oper) cs b, ops[j]? = some o → o.op ≠ .select cs b) :
    ∀ (fuel : Nat) (D C : Heap → Prop) (listed : Array Bool) (a : Act), Closed ops listed →
      (∀ j oj, ops[j]? = some oj → j ≠ i → listed.getD j true = false → (∀ e ∈ oj.after, Region.binds .any e = true → e.on ≠ i) → oi.apart ops oj = true) →
      i ∈ Region.ready .any ops listed → YX P ops w0 D oi v a →
      Mix P ops Q w0 fuel D C (listed.setIfInBounds i true) (a.put oi.dst v) → Mix P ops Q w0 (fuel + 1) D C listed a := by
  intro fuel
  induction fuel with
  | zero =>
    intro D C listed a hcl _ hr hy H
    refine .inl ⟨fun h => (by rw [h] at hr; cases hr), fun j hj o ho => ?_⟩
    by_cases hji : j = i
    · subst hji; rw [hi] at ho; cases ho; exact .inl ⟨v, hy, H⟩
    · have := ready_mono hj hji
      rw [H.1] at this
      cases this
  | succ fuel ih =>
    intro D C listed a hcl hfree hr hy H
    refine .inl ⟨fun h => (by rw [h] at hr; cases hr), fun j hj oj hoj => ?_⟩
    by_cases hji : j = i
    · subst hji; rw [hi] at hoj; cases hoj; exact .inl ⟨v, hy, H⟩
    · rcases H with ⟨_, H⟩ | ⟨ht, _⟩
      · obtain ⟨hjun, oj', hoj', hall⟩ := mem_ready.1 hj
        rw [hoj] at hoj'; cases hoj'
        have hnot : ∀ e ∈ oj.after, Region.binds .any e = true → e.on ≠ i := fun e he hb heq => by
          have h1 := hall e he hb
          have h0 := (mem_ready.1 hr).1
          rw [heq] at h1
          rcases Nat.lt_or_ge i listed.size with h' | h'
          · simp [h'] at h0 h1; rw [h0] at h1; cases h1
          · simp [Array.getElem?_eq_none h'] at h1
        have hap := hfree j oj hoj hji hjun hnot
        obtain ⟨a1, a2, a3⟩ := Oper.apart_spec hap
        have keep : ∀ D' : Heap → Prop, YX P ops w0 D' oi v a → ∀ u, YX P ops w0 D' oi v (a.put oj.dst u) := fun D' hy u =>
          hy.of_same (execOp_put oi (fun cs b => hsel i oi cs b hi) a oj.dst u a3) (wanted_put oi a oj.dst u a3)
        have hfree' : ∀ k ok, ops[k]? = some ok → k ≠ i → (listed.setIfInBounds j true).getD k true = false →
            (∀ e ∈ ok.after, Region.binds .any e = true → e.on ≠ i) → oi.apart ops ok = true := fun k ok hk hki hun hno => by
          refine hfree k ok hk hki ?_ hno
          by_cases hjk : j = k
          · subst hjk; exact hjun
          · rw [getD_set_ne true hjk] at hun; exact hun
        have e1 : execOp a.eval oj = execOp (a.put oi.dst v).eval oj := (execOp_put oj (fun cs b => hsel j oj cs b hoj) a oi.dst v a1).symm
        have e2 : Region.wanted oj (yielded ops a.tmps) = Region.wanted oj (yielded ops (a.put oi.dst v).tmps) := (wanted_put oj a oi.dst v a1).symm
        have next : ∀ (D' C' : Heap → Prop), (∀ h, D' h → D h) → ∀ u, Mix P ops Q w0 fuel D' C' ((listed.setIfInBounds i true).setIfInBounds j true) ((a.put oi.dst v).put oj.dst u) →
            Mix P ops Q w0 (fuel + 1) D' C' (listed.setIfInBounds j true) (a.put oj.dst u) := fun D' C' hs u m => by
          refine ih D' C' (listed.setIfInBounds j true) (a.put oj.dst u) (hcl.set hj) hfree' (ready_mono hr (Ne.symm hji)) (keep D' (hy.sub hs) u) ?_
          rw [Array.setIfInBounds_comm _ _ hji, ← Act.put_comm a v u a2]
          exact m
        rcases H j (ready_mono hj hji) oj hoj with ⟨u, hyj, hm⟩ | he
        · exact .inl ⟨u, hyj.of_same e1 e2, next D C (fun _ h => h) u hm⟩
        · exact .inr fun w hw => ((he w hw).of_same e1 e2).mono fun u h' ⟨D', C', hC', h1, h2, hs, hm⟩ => ⟨D', C', hC', h1, h2, hs, next D' C' hs u hm⟩
      · rw [tail_first hcl hr ht] at hj
        exact absurd (List.mem_singleton.1 hj) hji
end

/-! ### .. by the slots -/
/-- the operation o yields v from the heap h; blocks may be added -/
def YE (P : Program) (w0 : World) (h : Heap) (L : Env) (o : Oper) (v : Value) : Prop := ∀ w, w.heap = h → AtC w0 (· = h) w → Oper.quietUpon P (AtC w0 (Ext h)) w v ((execOp (rho L) o).run P w)
theorem YE.of {P : Program} {w0 : World} {h : Heap} {L : Env} {o : Oper} {v : Value} (y : Y P w0 (· = h) L o v) : YE P w0 h L o v := by
  intro w _ hw
  have h1 := y w hw
  generalize (execOp (rho L) o).run P w = r at *
  cases r with
  | ok n w' =>
    cases n <;> simp only [Oper.quietUpon] at h1 ⊢
    case value u => exact h1
    case skip => exact h1
    case enter f args =>
      refine ⟨h1.1, h1.2.mono ?_⟩
      rintro e w'' ⟨h2, h3⟩
      exact ⟨h2, by rw [h3.heap]; exact Fr.refl _ _, h3.os, h3.tape, h3.output, h3.drs⟩
  | halt x w' => simp only [Oper.quietUpon] at h1
theorem YE_call {P : Program} {w0 : World} {h : Heap} {L : Env} {o : Oper} {f : FuncId} {args : Array Value} {v : Value} (he : execOp (rho L) o = callFunc f args) (c : Fn P f args h fun u h' => u = v ∧ Ext h h') : YE P w0 h L o v := by
  intro w e hw
  rw [he, run_callFunc args w c.1]
  refine ⟨rfl, ((c.2 w e).mono ?_)⟩
  rintro e w' ⟨u, h', rfl, ha, rfl, hC⟩
  exact ⟨rfl, (hw.at.trans ha).cls hC⟩
section
variable {P : Program} {Q : Exit → Act → World → Prop} {N : Nat} {w0 : World} {k : List Ctl} {L : Env} {h : Heap} {all : List Oper} {D C : Heap → Prop} {m : Nat} {done : List Bool}
/-- m operations of the region 'all' are still to come, all but those that are done; the heap is of the class C -/
def DR (P : Program) (Q : Exit → Act → World → Prop) (N : Nat) (w0 : World) (k : List Ctl) (all : List Oper) (m : Nat) (D C : Heap → Prop) (done : List Bool) (L : Env) : Prop :=
  Region.noSelect all.toArray = true → ∀ a, Has N a L → Mix P all.toArray (den P Q k) w0 m D C done.toArray a
def allFalse (l : List Oper) : List Bool := l.map fun _ => false
theorem allFalse_eq (l : List Oper) : (allFalse l).toArray = Array.replicate l.toArray.size false := by
  apply Array.ext'
  simp [allFalse, List.map_const']
theorem Run_D {id : Nat} {l : List Oper} (D C : Heap → Prop) (hm : P.follows .mixedOrders = true) (hs : Region.noSelect l.toArray = true) (hC : C h) (st : Stable C) (cd : ∀ h, C h → D h) (g : DR P Q N w0 k l l.length D C (allFalse l) L) : Run P Q N w0 (.code (.region id l.toArray true) :: k) L h := by
  intro a w hL hW
  refine wp_region_any hm (mix_sound _ D C _ a st cd ?_ _ ((hW.cls hC).drawn))
  have := g hs a hL
  rw [allFalse_eq] at this
  exact this
def readyB (all : List Oper) (done : List Bool) (i : Nat) : Bool := (Region.ready .any all.toArray done.toArray).contains i && Region.free .any all.toArray done.toArray i && closedB all.toArray done.toArray
def markB (done : List Bool) (i : Nat) : List Bool := done.set i true
theorem opA_get {all : List Oper} {i : Nat} (h : i < all.length) : all.toArray[i]? = some (opA all i) := by simp [opA, h]
theorem DR_y0 {i : Nat} (v : Value) (hf : fineI N all L i = true) (hr : readyB all done i = true) (hY : ∀ h, D h → YE P w0 h L (opA all i) v) (g : DR P Q N w0 k all m D C (markB done i) (setL L (opA all i).dst v)) : DR P Q N w0 k all (m + 1) D C done L := by
  have f := fine_of hf
  simp only [readyB, Bool.and_eq_true] at hr
  intro hs a hL
  refine mix_first (v := v) (opA_get f.lt) (Region.noSelect_spec hs) m D C done.toArray a (closedB_spec hr.2) (Region.free_spec (opA_get f.lt) hr.1.2) (by simpa using hr.1.1) (.inl ⟨wanted_of hL f.want, fun h hC w hw => ?_⟩) ?_
  · unfold Oper.quietAt; rw [hL.execOp (plainOp_ne f.plain) f.known]; exact hY h hC w hw.heap hw
  · have := g hs (a.put (opA all i).dst v) (hL.put _ _ f.dst)
    simpa [markB] using this
/-- plain ones, many at once, in the order of the text -/
def readyBs (all : List Oper) : List Bool → Nat → List Value → Bool
  | done, i, _ :: vs => readyB all done i && readyBs all (markB done i) (i + 1) vs
  | _, _, [] => true
def markBs : List Bool → Nat → List Value → List Bool
  | done, i, _ :: vs => markBs (markB done i) (i + 1) vs
  | done, _, [] => done
theorem DR_b0 : ∀ (vs : List Value) (i : Nat) (L : Env) (done : List Bool), fineB N all i vs L = true → readyBs all done i vs = true → (∀ w, evB P w all i vs L = okB w vs) →
    DR P Q N w0 k all m D C (markBs done i vs) (setB all i vs L) → DR P Q N w0 k all (m + vs.length) D C done L
  | [], _, _, _, _, _, _, g => g
  | v :: vs, i, L, done, hf, hr, he, g => by
    simp only [fineB, Bool.and_eq_true] at hf
    simp only [readyBs, Bool.and_eq_true] at hr
    exact DR_y0 (m := m + vs.length) v hf.1 hr.1 (fun h _ => YE.of <| Y_pure fun w => by have := he w; simp only [evB, okB, List.cons.injEq] at this; exact this.1)
      (DR_b0 vs (i + 1) _ _ hf.2 hr.2 (fun w => by have := he w; simp only [evB, okB, List.cons.injEq] at this; exact this.2) g)
/-- an effect, the only operation that may come up -/
theorem DR_e0 (i : Nat) (hf : fineI N all L i = true) (hr : Region.ready .any all.toArray done.toArray = [i])
    (e : ∀ h, C h → Eff P w0 L h (opA all i) fun v h' => ∃ D' C' : Heap → Prop, C' h' ∧ Stable C' ∧ (∀ x, C' x → D' x) ∧ (∀ x, D' x → D x) ∧ DR P Q N w0 k all m D' C' (markB done i) (setL L (opA all i).dst v)) : DR P Q N w0 k all (m + 1) D C done L := by
  have f := fine_of hf
  intro hs a hL
  refine .inl ⟨by rw [hr]; simp, fun j hj o ho => ?_⟩
  rw [hr, List.mem_singleton] at hj
  subst hj
  rw [opA_get f.lt] at ho
  cases ho
  refine .inr fun w hw => ⟨wanted_of hL f.want, ?_⟩
  rw [hL.execOp (plainOp_ne f.plain) f.known]
  have e1 := (e w.heap hw.heap w hw.at)
  have fin : ∀ v h', (∃ D' C' : Heap → Prop, C' h' ∧ Stable C' ∧ (∀ x, C' x → D' x) ∧ (∀ x, D' x → D x) ∧ DR P Q N w0 k all m D' C' (markB done j) (setL L (opA all j).dst v)) →
      ∃ D' C' : Heap → Prop, C' h' ∧ Stable C' ∧ (∀ x, C' x → D' x) ∧ (∀ x, D' x → D x) ∧ Mix P all.toArray (den P Q k) w0 m D' C' (done.toArray.setIfInBounds j true) (a.put (opA all j).dst v) := fun v h' ⟨D', C', h1, h1', h1'', h2, h3⟩ =>
    ⟨D', C', h1, h1', h1'', h2, by have := h3 hs _ (hL.put _ v f.dst); simpa [markB] using this⟩
  rcases e1 with ⟨v, w', h', h1, h2, h3⟩ | ⟨f', args, h1, h2⟩
  · exact .inl ⟨v, w', h', h1, h2, fin _ _ h3⟩
  · exact .inr ⟨f', args, h1, h2.mono fun _ _ ⟨v, h', x, y, z⟩ => ⟨v, h', x, y, fin _ _ z⟩⟩
/-- two effects, in whatever order -/
theorem DR_e2 {m' : Nat} (m i j : Nat) (hm : Nat.beq m' (m + 1) = true) (hfi : fineI N all L i = true) (hfj : fineI N all L j = true) (hr : Region.ready .any all.toArray done.toArray = [i, j])
    (ei : ∀ h, C h → Eff P w0 L h (opA all i) fun v h' => ∃ D' C' : Heap → Prop, C' h' ∧ Stable C' ∧ (∀ x, C' x → D' x) ∧ (∀ x, D' x → D x) ∧ DR P Q N w0 k all m D' C' (markB done i) (setL L (opA all i).dst v))
    (ej : ∀ h, C h → Eff P w0 L h (opA all j) fun v h' => ∃ D' C' : Heap → Prop, C' h' ∧ Stable C' ∧ (∀ x, C' x → D' x) ∧ (∀ x, D' x → D x) ∧ DR P Q N w0 k all m D' C' (markB done j) (setL L (opA all j).dst v)) : DR P Q N w0 k all m' D C done L := by
  rw [Nat.eq_of_beq_eq_true hm]
  intro hs a hL
  refine .inl ⟨by rw [hr]; simp, fun q hq o ho => ?_⟩
  rw [hr] at hq
  have hq : q = i ∨ q = j := by simpa using hq
  have one : ∀ q, fineI N all L q = true → (∀ h, C h → Eff P w0 L h (opA all q) fun v h' => ∃ D' C' : Heap → Prop, C' h' ∧ Stable C' ∧ (∀ x, C' x → D' x) ∧ (∀ x, D' x → D x) ∧ DR P Q N w0 k all m D' C' (markB done q) (setL L (opA all q).dst v)) → all.toArray[q]? = some o →
      ∀ w, AtC w0 C w → EX P all.toArray w0 o a w fun v h' => ∃ D' C' : Heap → Prop, C' h' ∧ Stable C' ∧ (∀ h, C' h → D' h) ∧ (∀ h, D' h → D h) ∧ Mix P all.toArray (den P Q k) w0 m D' C' (done.toArray.setIfInBounds q true) (a.put o.dst v) := by
    intro q hf e ho w hw
    have f := fine_of hf
    rw [opA_get f.lt] at ho
    cases ho
    refine ⟨wanted_of hL f.want, ?_⟩
    rw [hL.execOp (plainOp_ne f.plain) f.known]
    have fin : ∀ v h', (∃ D' C' : Heap → Prop, C' h' ∧ Stable C' ∧ (∀ x, C' x → D' x) ∧ (∀ x, D' x → D x) ∧ DR P Q N w0 k all m D' C' (markB done q) (setL L (opA all q).dst v)) →
        ∃ D' C' : Heap → Prop, C' h' ∧ Stable C' ∧ (∀ h, C' h → D' h) ∧ (∀ h, D' h → D h) ∧ Mix P all.toArray (den P Q k) w0 m D' C' (done.toArray.setIfInBounds q true) (a.put (opA all q).dst v) := fun v h' ⟨D', C', h1, h1', h1'', h2, h3⟩ =>
      ⟨D', C', h1, h1', h1'', h2, by have := h3 hs _ (hL.put _ v f.dst); simpa [markB] using this⟩
    rcases e w.heap hw.heap w hw.at with ⟨v, w', h', h1, h2, h3⟩ | ⟨f', args, h1, h2⟩
    · exact .inl ⟨v, w', h', h1, h2, fin _ _ h3⟩
    · exact .inr ⟨f', args, h1, h2.mono fun _ _ ⟨v, h', x, y, z⟩ => ⟨v, h', x, y, fin _ _ z⟩⟩
  rcases hq with rfl | rfl
  · exact .inr (one _ hfi ei ho)
  · exact .inr (one _ hfj ej ho)
/-- three effects, in whatever order -/
theorem DR_e3 {m' : Nat} (m i j p : Nat) (hm : Nat.beq m' (m + 1) = true) (hfi : fineI N all L i = true) (hfj : fineI N all L j = true) (hfp : fineI N all L p = true) (hr : Region.ready .any all.toArray done.toArray = [i, j, p])
    (ei : ∀ h, C h → Eff P w0 L h (opA all i) fun v h' => ∃ D' C' : Heap → Prop, C' h' ∧ Stable C' ∧ (∀ x, C' x → D' x) ∧ (∀ x, D' x → D x) ∧ DR P Q N w0 k all m D' C' (markB done i) (setL L (opA all i).dst v))
    (ej : ∀ h, C h → Eff P w0 L h (opA all j) fun v h' => ∃ D' C' : Heap → Prop, C' h' ∧ Stable C' ∧ (∀ x, C' x → D' x) ∧ (∀ x, D' x → D x) ∧ DR P Q N w0 k all m D' C' (markB done j) (setL L (opA all j).dst v))
    (ep : ∀ h, C h → Eff P w0 L h (opA all p) fun v h' => ∃ D' C' : Heap → Prop, C' h' ∧ Stable C' ∧ (∀ x, C' x → D' x) ∧ (∀ x, D' x → D x) ∧ DR P Q N w0 k all m D' C' (markB done p) (setL L (opA all p).dst v)) : DR P Q N w0 k all m' D C done L := by
  rw [Nat.eq_of_beq_eq_true hm]
  intro hs a hL
  refine .inl ⟨by rw [hr]; simp, fun q hq o ho => ?_⟩
  rw [hr] at hq
  have hq : q = i ∨ q = j ∨ q = p := by simpa using hq
  have one : ∀ q, fineI N all L q = true → (∀ h, C h → Eff P w0 L h (opA all q) fun v h' => ∃ D' C' : Heap → Prop, C' h' ∧ Stable C' ∧ (∀ x, C' x → D' x) ∧ (∀ x, D' x → D x) ∧ DR P Q N w0 k all m D' C' (markB done q) (setL L (opA all q).dst v)) → all.toArray[q]? = some o →
      ∀ w, AtC w0 C w → EX P all.toArray w0 o a w fun v h' => ∃ D' C' : Heap → Prop, C' h' ∧ Stable C' ∧ (∀ h, C' h → D' h) ∧ (∀ h, D' h → D h) ∧ Mix P all.toArray (den P Q k) w0 m D' C' (done.toArray.setIfInBounds q true) (a.put o.dst v) := by
    intro q hf e ho w hw
    have f := fine_of hf
    rw [opA_get f.lt] at ho
    cases ho
    refine ⟨wanted_of hL f.want, ?_⟩
    rw [hL.execOp (plainOp_ne f.plain) f.known]
    have fin : ∀ v h', (∃ D' C' : Heap → Prop, C' h' ∧ Stable C' ∧ (∀ x, C' x → D' x) ∧ (∀ x, D' x → D x) ∧ DR P Q N w0 k all m D' C' (markB done q) (setL L (opA all q).dst v)) →
        ∃ D' C' : Heap → Prop, C' h' ∧ Stable C' ∧ (∀ h, C' h → D' h) ∧ (∀ h, D' h → D h) ∧ Mix P all.toArray (den P Q k) w0 m D' C' (done.toArray.setIfInBounds q true) (a.put (opA all q).dst v) := fun v h' ⟨D', C', h1, h1', h1'', h2, h3⟩ =>
      ⟨D', C', h1, h1', h1'', h2, by have := h3 hs _ (hL.put _ v f.dst); simpa [markB] using this⟩
    rcases e w.heap hw.heap w hw.at with ⟨v, w', h', h1, h2, h3⟩ | ⟨f', args, h1, h2⟩
    · exact .inl ⟨v, w', h', h1, h2, fin _ _ h3⟩
    · exact .inr ⟨f', args, h1, h2.mono fun _ _ ⟨v, h', x, y, z⟩ => ⟨v, h', x, y, fin _ _ z⟩⟩
  rcases hq with rfl | rfl | rfl
  · exact .inr (one _ hfi ei ho)
  · exact .inr (one _ hfj ej ho)
  · exact .inr (one _ hfp ep ho)
/-- the last ones, each waiting for the one before it -/
def chainB (all : List Oper) : Nat → List Bool → Nat → Bool
  | 0, done, _ => (Region.ready .any all.toArray done.toArray).isEmpty
  | m + 1, done, i => (match Region.ready .any all.toArray done.toArray with | [j] => Nat.beq j i | _ => false) && chainB all m (markB done i) (i + 1)
theorem wpAny_chain {all : List Oper} : ∀ (m : Nat) (done : List Bool) (i : Nat) (a : Act) (w : World), chainB all m done i = true → all.length = i + m → wpList P all.toArray (den P Q k) (all.drop i) a w → wpAny P .any all.toArray (den P Q k) m done.toArray a w
  | 0, done, i, a, w, hc, hl, g => by
    simp only [chainB, List.isEmpty_iff] at hc
    rw [List.drop_eq_nil_of_le (by omega)] at g
    exact ⟨hc, g⟩
  | m + 1, done, i, a, w, hc, hl, g => by
    simp only [chainB, Bool.and_eq_true] at hc
    obtain ⟨h1, h2⟩ := hc
    split at h1
    · rename_i j hj
      have := Nat.eq_of_beq_eq_true h1
      subst this
      refine wpAny_all hj (by simp) fun i hi => ?_
      rw [List.mem_singleton] at hi
      subst hi
      have hlt : i < all.length := by omega
      unfold wpOp
      simp only [opA_get hlt]
      rw [drop_opA hlt] at g
      unfold wpList at g
      have nxt : ∀ a w, wpList P all.toArray (den P Q k) (all.drop (i + 1)) a w → wpAny P .any all.toArray (den P Q k) m (done.toArray.setIfInBounds i true) a w := fun a w g => by
        have := wpAny_chain m (markB done i) (i + 1) a w h2 (by omega) g
        simpa [markB] using this
      split
      · rename_i hw
        rw [if_pos hw] at g
        exact g.imp (Oper.wp_mono nxt) id
      · rename_i hw
        rw [if_neg hw] at g
        exact nxt _ _ g
    · cases h1
theorem DR_tail {i : Nat} (hc : chainB all m done i = true) (hl : Nat.beq all.length (i + m) = true) (ht : (Nat.beq m 0 || tailOK all.toArray done.toArray) = true) (g : ∀ h, C h → Run P Q N w0 (.ops all i :: k) L h) : DR P Q N w0 k all m D C done L := by
  intro hs a hL
  have hl := Nat.eq_of_beq_eq_true hl
  have key : ∀ w, AtC w0 C w → wpAny P .any all.toArray (den P Q k) m done.toArray a w := fun w hw => wpAny_chain m done i a w hc hl (g w.heap hw.heap a w hL hw.at)
  cases m with
  | zero => exact ⟨by simpa [chainB] using hc, fun w hw => (key w hw).2⟩
  | succ m => exact .inr ⟨by simpa [Nat.beq_eq] using ht, key⟩
theorem DR_y {m' : Nat} (m : Nat) {i : Nat} (v : Value) (hm : Nat.beq m' (m + 1) = true) (hf : fineI N all L i = true) (hr : readyB all done i = true) (hY : ∀ h, D h → YE P w0 h L (opA all i) v) (g : DR P Q N w0 k all m D C (markB done i) (setL L (opA all i).dst v)) : DR P Q N w0 k all m' D C done L := by
  rw [Nat.eq_of_beq_eq_true hm]; exact DR_y0 v hf hr hY g
theorem DR_b {m' : Nat} (m : Nat) (vs : List Value) (i : Nat) (hm : Nat.beq m' (m + vs.length) = true) (hf : fineB N all i vs L = true) (hr : readyBs all done i vs = true) (he : ∀ w, evB P w all i vs L = okB w vs)
    (g : DR P Q N w0 k all m D C (markBs done i vs) (setB all i vs L)) : DR P Q N w0 k all m' D C done L := by
  rw [Nat.eq_of_beq_eq_true hm]; exact DR_b0 vs i L done hf hr he g
theorem DR_e {m' : Nat} (m i : Nat) (hm : Nat.beq m' (m + 1) = true) (hf : fineI N all L i = true) (hr : Region.ready .any all.toArray done.toArray = [i])
    (e : ∀ h, C h → Eff P w0 L h (opA all i) fun v h' => ∃ D' C' : Heap → Prop, C' h' ∧ Stable C' ∧ (∀ x, C' x → D' x) ∧ (∀ x, D' x → D x) ∧ DR P Q N w0 k all m D' C' (markB done i) (setL L (opA all i).dst v)) : DR P Q N w0 k all m' D C done L := by
  rw [Nat.eq_of_beq_eq_true hm]; exact DR_e0 i hf hr e
end
end Go.Proofs.YtfhphkiggdepaaaDoor
