/-
  Short forms of the engine's steps: what the kernel reckons by itself is left out.
-/
import Derived.Test.YtelopfgolahlpaaGreatRow
namespace Go.Proofs.YtelopfgolahlpaaGreat
open Go
section
variable {P : Program} {Q : Exit → Act → World → Prop} {N : Nat} {w0 : World} {k : List Ctl} {L : Env} {h : Heap} {C : Heap → Prop}
theorem Zs {x y : Code} (g : Run P Q N w0 (.code x :: .code y :: k) L h) : Run P Q N w0 (.code (.seq x y) :: k) L h := Run_seq g
theorem Zb {all : List Oper} {j : Nat} {L' : Env} (vs : List Value) (i : Nat) (g : QRun P N w0 C all (addB i vs) j (setB all i vs L) L') (hf : fineB N all i vs L = true := by kernel_rfl) (he : ∀ w, evB P w all i vs L = okB w vs := by intro w; kernel_rfl) : QRun P N w0 C all i j L L' := QRun_b vs i L hf he g
theorem Zr {all : List Oper} (vs : List Value) (i : Nat) (g : Run P Q N w0 (.ops all (addB i vs) :: k) (setB all i vs L) h) (hf : fineB N all i vs L = true := by kernel_rfl) (he : ∀ w, evB P w all i vs L = okB w vs := by intro w; kernel_rfl) : Run P Q N w0 (.ops all i :: k) L h := Run_b vs i L hf he g
theorem Zd {all : List Oper} {i j : Nat} (ts : List Nat) {L' : Env} (hi : Nat.beq i j = true := by kernel_rfl) (hp : pickL L ts = some L' := by kernel_rfl) : QRun P N w0 C all i j L L' := QRun_done ts hi hp
theorem Zg {id : Nat} {l : List Oper} (j : Nat) (L' : Env) (q : QRun P N w0 (· = h) l 0 j L L') (g : Run P Q N w0 k L' h) (hj : Nat.ble l.length j = true := by kernel_rfl) : Run P Q N w0 (.code (.region id l.toArray false) :: k) L h := Run_reg j hj q g
/-- a region of plain operations alone -/
theorem Zq {id : Nat} {l : List Oper} (vs : List Value) (ts : List Nat) (L' : Env) (g : Run P Q N w0 k L' h) (hf : fineB N l 0 vs L = true := by kernel_rfl) (he : ∀ w, evB P w l 0 vs L = okB w vs := by intro w; kernel_rfl) (hi : Nat.beq (addB 0 vs) l.length = true := by kernel_rfl) (hp : pickL (setB l 0 vs L) ts = some L' := by kernel_rfl) :
    Run P Q N w0 (.code (.region id l.toArray false) :: k) L h := Run_reg l.length (Nat.ble_eq_true_of_le (Nat.le_refl _)) (QRun_b vs 0 L hf he (QRun_done ts hi hp)) g
theorem Zy {all : List Oper} {i j : Nat} {L' : Env} (v : Value) (hY : Y P w0 C L (opA all i) v) (g : QRun P N w0 C all (i + 1) j (setL L (opA all i).dst v) L') (hf : fineI N all L i = true := by kernel_rfl) : QRun P N w0 C all i j L L' := QRun_y v hf hY g
theorem Zz {all : List Oper} {i : Nat} (v : Value) (hY : Y P w0 (· = h) L (opA all i) v) (g : Run P Q N w0 (.ops all (i + 1) :: k) (setL L (opA all i).dst v) h) (hf : fineI N all L i = true := by kernel_rfl) : Run P Q N w0 (.ops all i :: k) L h := Run_y v hf hY g
theorem Zc {t : Nat} (b : Bool) {x y : Code} (g1 : b = true → Run P Q N w0 (.code x :: k) L h) (g2 : b = false → Run P Q N w0 (.code y :: k) L h) (hb : lk L t = some (.bool b) := by kernel_rfl) : Run P Q N w0 (.code (.cond (.tmp t) x y) :: k) L h := Run_cond hb g1 g2
theorem Zk (ts : List Nat) (L' : Env) (g : Run P Q N w0 k L' h) (hp : pickL L ts = some L' := by kernel_rfl) : Run P Q N w0 k L h := Run_keep ts hp g
theorem Zl {o : Oper} (t : Nat) (p : Addr) (v : Value) (hc : cellH h p = some v) (he : execOp (rho L) o = (do pure (.value (← Instr.loadAt t (.pointer (some p))))) := by kernel_rfl) (ht : ∀ w, (isAgg t).run P w = .ok false w := by intro w; kernel_rfl) : Y P w0 (· = h) L o v := Y_load1 he ht hc
theorem Zi {o : Oper} (t e sz : Nat) (a : Option Addr) (n cap : Nat) (kk : IntKind) (i : Int) (h1 : P.underlying t = some (.slice e)) (ha : a.isSome = true) (h0 : 0 ≤ i) (hn : i < n) (he : execOp (rho L) o = (do pure (.value (← Instr.indexAt t (.slice a n cap) (.int kk i)))) := by kernel_rfl) (h2 : (P.info? e).map (·.size) = some sz := by kernel_rfl) :
    Y P w0 C L o (.pointer (some (adr a (i.toNat * sz)))) := Y_idx he h1 h2 ha h0 hn
end
end Go.Proofs.YtelopfgolahlpaaGreat
