/-
  Short forms of the engine's steps: what the kernel reckons by itself is left out.
-/
import Derived.Test.YtfhphkiggdepaaaDoorRow
namespace Go.Proofs.YtfhphkiggdepaaaDoor
open Go
/-- the pointer to a box -/
abbrev pV (b : Nat) : Value := .pointer (some ⟨b, 0, none⟩)
abbrev iV (n : Int) : Value := .int .i64 n
section
variable {P : Program} {Q : Exit → Act → World → Prop} {N : Nat} {w0 : World} {k : List Ctl} {L : Env} {h : Heap} {C : Heap → Prop}
theorem Zs {x y : Code} (g : Run P Q N w0 (.code x :: .code y :: k) L h) : Run P Q N w0 (.code (.seq x y) :: k) L h := Run_seq g
theorem Zb {all : List Oper} {j : Nat} {L' : Env} (vs : List Value) (i : Nat) (g : QRun P N w0 C all (addB i vs) j (setB all i vs L) L') (hf : fineB N all i vs L = true := by kernel_rfl) (he : ∀ w, evB P w all i vs L = okB w vs := by intro w; kernel_rfl) : QRun P N w0 C all i j L L' := QRun_b vs i L hf he g
theorem Zr {all : List Oper} (vs : List Value) (i : Nat) (g : Run P Q N w0 (.ops all (addB i vs) :: k) (setB all i vs L) h) (hf : fineB N all i vs L = true := by kernel_rfl) (he : ∀ w, evB P w all i vs L = okB w vs := by intro w; kernel_rfl) : Run P Q N w0 (.ops all i :: k) L h := Run_b vs i L hf he g
theorem Zd {all : List Oper} {i j : Nat} (ts : List Nat) {L' : Env} (hi : Nat.beq i j = true := by kernel_rfl) (hp : pickL L ts = some L' := by kernel_rfl) : QRun P N w0 C all i j L L' := QRun_done ts hi hp
theorem Zg {id : Nat} {l : List Oper} (j : Nat) (L' : Env) (q : QRun P N w0 (· = h) l 0 j L L') (g : Run P Q N w0 k L' h) (hj : Nat.ble l.length j = true := by kernel_rfl) : Run P Q N w0 (.code (.region id l.toArray false) :: k) L h := Run_reg j hj q g
/-- a region of plain operations alone -/
theorem Zq {id : Nat} {l : List Oper} (vs : List Value) (ts : List Nat) (L' : Env) (g : Run P Q N w0 k L' h) (hf : fineB N l 0 vs L = true := by kernel_rfl) (he : ∀ w, evB P w l 0 vs L = okB w vs := by intro w; kernel_rfl) (hi : Nat.beq (addB 0 vs) l.length = true := by kernel_rfl) (hp : pickL (setB l 0 vs L) ts = some L' := by kernel_rfl) :
    Run P Q N w0 (.code (.region id l.toArray false) :: k) L h := Run_reg l.length (Nat.ble_eq_true_of_le (Nat.le_refl _)) (QRun_b vs 0 L hf he (QRun_done ts hi hp)) g
theorem Zy {all : List Oper} {i j : Nat} {L' : Env} (v : Value) (hY : Y P w0 C L (opA all i) v) (g : QRun P N w0 C all (i + 1) j (setL L (opA all i).dst v) L') (hf : fineI N all L i = true := by kernel_rfl) : QRun P N w0 C all i j L L' := QRun_y v hf hY g
theorem Zz {all : List Oper} {i : Nat} (v : Value) (hY : Y P w0 (· = h) L (opA all i) v) (g : Run P Q N w0 (.ops all (i + 1) :: k) (setL L (opA all i).dst v) h) (hf : fineI N all L i = true := by kernel_rfl) : Run P Q N w0 (.ops all i :: k) L h := Run_y v hf hY g
theorem Zc {t : Nat} (b : Bool) {x y : Code} (g1 : b = true → Run P Q N w0 (.code x :: k) L h) (g2 : b = false → Run P Q N w0 (.code y :: k) L h) (hb : lk L t = some (.bool b) := by kernel_rfl) : Run P Q N w0 (.code (.cond (.tmp t) x y) :: k) L h := Run_cond hb g1 g2
theorem Zk (ts : List Nat) (L' : Env) (g : Run P Q N w0 k L' h) (hp : pickL L ts = some L' := by kernel_rfl) : Run P Q N w0 k L h := Run_keep ts hp g
theorem Zl {o : Oper} (t : Nat) (p : Addr) (v : Value) (hc : cellH h p = some v) (he : execOp (rho L) o = (do pure (.value (← Instr.loadAt t (.pointer (some p))))) := by kernel_rfl) (ht : ∀ w, (isAgg t).run P w = .ok false w := by intro w; kernel_rfl) : Y P w0 (· = h) L o v := Y_load1 he ht hc
theorem Zi {o : Oper} (t e sz : Nat) (a : Option Addr) (n cap : Nat) (kk : IntKind) (i : Int) (h1 : P.underlying t = some (.slice e)) (ha : a.isSome = true) (h0 : 0 ≤ i) (hn : i < n) (he : execOp (rho L) o = (do pure (.value (← Instr.indexAt t (.slice a n cap) (.int kk i)))) := by kernel_rfl) (h2 : (P.info? e).map (·.size) = some sz := by kernel_rfl) :
    Y P w0 C L o (.pointer (some (adr a (i.toNat * sz)))) := Y_idx he h1 h2 ha h0 hn
theorem Ze {all : List Oper} {i : Nat} (e : Eff P w0 L h (opA all i) fun v h' => Run P Q N w0 (.ops all (i + 1) :: k) (setL L (opA all i).dst v) h') (hf : fineI N all L i = true := by kernel_rfl) : Run P Q N w0 (.ops all i :: k) L h := Run_E hf e
theorem Zn {all : List Oper} {i j : Nat} {L' : Env} (g : QRun P N w0 C all (i + 1) j (setL L (opA all i).dst undef) L') (hf : idleI N all L i = true := by kernel_rfl) : QRun P N w0 C all i j L L' := QRun_n hf g
theorem Zx {all : List Oper} {i : Nat} (g : Run P Q N w0 k L h) (hi : Nat.ble all.length i = true := by kernel_rfl) : Run P Q N w0 (.ops all i :: k) L h := Run_nil hi g
theorem Zv {all : List Oper} {i j : Nat} {L' : Env} (b c : Bool) (hb : b = c) (g : QRun P N w0 C all (i + 1) j (setL L (opA all i).dst (.bool c)) L') (hf : fineI N all L i = true := by kernel_rfl) (he : ∀ w, (execOp (rho L) (opA all i)).run P w = .ok (.value (.bool b)) w := by intro w; kernel_rfl) : QRun P N w0 C all i j L L' := QRun_bool b c hf he hb g
theorem Zf {R : Env → Heap → Prop} (ts : List Nat) {L' : Env} (hR : R L' h) (hp : pickL L ts = some L' := by kernel_rfl) :
    Run P Q N w0 (.again (fun a w => ∃ L' h', R L' h' ∧ Has N a L' ∧ At w0 h' w) :: k) L h := Run_fall ts hp hR
theorem Za {I : Nat → Env → Heap → Prop} {m : Nat} (ts : List Nat) {L' : Env} (m' : Nat) (hI : I m' L' h) (hp : pickL L ts = some L' := by kernel_rfl) (hm : m' < m := by exact Nat.lt_succ_self _) :
    Run P Q N w0 (.again (fun a w => ∃ m', m' < m ∧ ∃ L' h', I m' L' h' ∧ Has N a L' ∧ At w0 h' w) :: k) L h := Run_again ts hp m' hm hI
theorem Zt {t : Nat} (v : Value) (hv : lk L t = some v := by kernel_rfl) : ResV P N L h (.tmp t) v := ResV_tmp hv
theorem Zo {f : FuncId} {fn : Func} {c : Code} (args : List Value) {Post : Value → Heap → Prop} (hf : P.funcs[f]? = some fn) (hb : fn.body = some c)
    (g : ∀ w0 : World, w0.heap = h → Run P (bodyPost P fn fun e w' => ∃ v h', e = .returned v ∧ At w0 h' w' ∧ Post v h') fn.ntmps w0 [.code c] (envOf 0 args) h)
    (hn : (fn.name != "runtime.NumGoroutine") = true := by kernel_rfl) (hs : Nat.ble args.length fn.ntmps = true := by kernel_rfl) : Fn P f args.toArray h Post := Fn_enter hf hb hn hs g
theorem ZC {o : Oper} (f : FuncId) (args : Array Value) {Post K : Value → Heap → Prop} (c : Fn P f args h Post) (g : ∀ v h', Post v h' → K v h') (he : execOp (rho L) o = callFunc f args := by kernel_rfl) : Eff P w0 L h o K := E_call c he g
theorem ZQ {o : Oper} (f : FuncId) (args : Array Value) {v : Value} (c : Fn P f args h fun u h' => u = v ∧ h' = h) (he : execOp (rho L) o = callFunc f args := by kernel_rfl) : Y P w0 (· = h) L o v := Y_callq he c
theorem Hold.pk {h0 : Heap} {is : List Item} (ns : List Nat) (H : Hold h0 h is) (hk : okP is.length ns = true := by kernel_rfl) : Hold h0 h (ns.map fun n => (is[n]?).getD emp) := H.pick ns hk
/-- the things behind the first n, in one bundle; .. and out of it again -/
theorem Hold.bd {h0 h1 : Heap} {is js : List Item} (n : Nat) (H : Hold h0 h1 is) (e : js = is.take n ++ [bun (is.drop n)] := by kernel_rfl) : Hold h0 h1 js := by
  rw [e]
  exact Hold.bundle (by rw [List.take_append_drop]; exact H)
theorem Hold.ub {h0 h1 h2 : Heap} {is js ls : List Item} (n m : Nat) (H : Hold h0 h2 is) (H0 : Hold h0 h1 js) (e1 : is = ls.take n ++ [bun (js.drop m)] := by kernel_rfl) (e2 : ls = ls.take n ++ js.drop m := by kernel_rfl) : Hold h0 h2 ls := by
  rw [e2]
  exact Hold.unbundle (by rw [← e1]; exact H) (Hold.tailBase (S := js.take m) (by rw [List.take_append_drop]; exact H0))
section
variable {all : List Oper} {D C : Heap → Prop} {m' : Nat} {done : List Bool}
theorem ZY (m i : Nat) (v : Value) (hY : ∀ h, D h → YE P w0 h L (opA all i) v) (g : DR P Q N w0 k all m D C (markB done i) (setL L (opA all i).dst v)) (hm : Nat.beq m' (m + 1) = true := by kernel_rfl) (hf : fineI N all L i = true := by kernel_rfl) (hr : readyB all done i = true := by kernel_rfl) : DR P Q N w0 k all m' D C done L := DR_y m v hm hf hr hY g
theorem ZB (m : Nat) (vs : List Value) (i : Nat) (g : DR P Q N w0 k all m D C (markBs done i vs) (setB all i vs L)) (hm : Nat.beq m' (m + vs.length) = true := by kernel_rfl) (hf : fineB N all i vs L = true := by kernel_rfl) (hr : readyBs all done i vs = true := by kernel_rfl) (he : ∀ w, evB P w all i vs L = okB w vs := by intro w; kernel_rfl) : DR P Q N w0 k all m' D C done L := DR_b m vs i hm hf hr he g
theorem ZT {m : Nat} (i : Nat) (g : ∀ h, C h → Run P Q N w0 (.ops all i :: k) L h) (hc : chainB all m done i = true := by kernel_rfl) (hl : Nat.beq all.length (i + m) = true := by kernel_rfl) (ht : (Nat.beq m 0 || tailOK all.toArray done.toArray) = true := by kernel_rfl) : DR P Q N w0 k all m D C done L := DR_tail hc hl ht g
theorem ZE (m i : Nat) (e : ∀ h, C h → Eff P w0 L h (opA all i) fun v h' => ∃ D' C' : Heap → Prop, C' h' ∧ Stable C' ∧ (∀ x, C' x → D' x) ∧ (∀ x, D' x → D x) ∧ DR P Q N w0 k all m D' C' (markB done i) (setL L (opA all i).dst v)) (hm : Nat.beq m' (m + 1) = true := by kernel_rfl) (hf : fineI N all L i = true := by kernel_rfl) (hr : Region.ready .any all.toArray done.toArray = [i] := by kernel_rfl) : DR P Q N w0 k all m' D C done L := DR_e m i hm hf hr e
/-- behind an effect of a drawn region: what is told of every heap from now on -/
theorem ZA {h0 h1 : Heap} {D0 C1 : List Item} {m : Nat} (D1 : List Item) (ks js : List Nat) (H : Hold h0 h1 C1) (g : DR P Q N w0 k all m (fun x => Hold h0 x D1) (fun x => Hold h0 x C1) done L) (e1 : D1 = ks.map fun n => (C1[n]?).getD emp := by kernel_rfl) (hk1 : okP C1.length ks = true := by kernel_rfl)
    (e0 : D0 = js.map fun n => (D1[n]?).getD emp := by kernel_rfl) (hk0 : okP D1.length js = true := by kernel_rfl) : ∃ D' C' : Heap → Prop, C' h1 ∧ Stable C' ∧ (∀ x, C' x → D' x) ∧ (∀ x, D' x → Hold h0 x D0) ∧ DR P Q N w0 k all m D' C' done L :=
  ⟨_, _, H, Hold.stable, fun x Hy => by rw [e1]; exact Hy.pick ks hk1, fun x Hy => by rw [e0]; exact Hy.pick js hk0, g⟩
end
theorem ZP {b ty : Nat} {h0 : Heap} {o : Oper} {K : Value → Heap → Prop} {R : List Item} {vs : List Value} (t off : Nat) (us : List Value) (v : Value) (H : Hold h0 h (box b ty vs :: R)) (g : ∀ h', Hold h0 h' (box b ty us :: R) → K undef h')
    (he : execOp (rho L) o = (do Instr.storeAt t (.pointer (some ⟨b, off, none⟩)) v; pure .skip) := by kernel_rfl) (hs : (P.info? t).map (·.size) = some v.cells.toList.length := by kernel_rfl)
    (h1 : v.cells.toList.all (·.oneCell') = true := by rfl) (hfit : Nat.ble (off + v.cells.toList.length) vs.length = true := by kernel_rfl) (hu : vs.take off ++ v.cells.toList ++ vs.drop (off + v.cells.toList.length) = us := by rfl) : Eff P w0 L h o K := E_bput H he hs h1 hfit hu g
end
end Go.Proofs.YtfhphkiggdepaaaDoor
