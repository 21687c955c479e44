/-
  Plain programs: what each Go function that the law reaches computes, on lists and integers.
  Conditions: None beyond the given statement.
-/
import Derived.Test.YtdgehhbgjmgjjaaM
namespace Go.Proofs.Ytdgehhbgjmgjjaa
open Go
structure TPlace where
  From : Int
  To : Int
  Delay : Int
  Tokens : Int
structure TGraph where
  Events : Int
  Places : List TPlace
structure TBoundserror where
  x : Int
  y : Int
  signed : Bool
  code : Int
structure TErroraddressstring where
  msg : ByteArray
  addr : Int
def laws_toInt64S (a_ : List Int) : M ((List Int)) :=
  M.bind (M.make (a_.length : Int) 0) (fun l1 => M.bind (M.forI 0 (a_.length : Int) (fun s => s) (fun i1 => (fun (s1 : (List Int)) => M.bind (M.idx a_ i1) (fun x2 => M.bind (M.idx s1 i1) (fun x3 => M.bind (M.upd s1 i1 x2) (fun l2 => M.ret (.inl l2)))))) l1) (fun x1 => M.ret x1))

def spec_l01In (n_ : Int) (low : Int) (high : Int) : M Bool :=
  M.ret ((decide (low ≤ n_)) && (decide (n_ ≤ high)))

def spec_l01Finite (a_ : Int) : M Bool :=
  M.bind (spec_l01In a_ (-1000000) 1000000) (fun x1 => M.ret x1)

def spec_IsValue (a_ : Int) : M Bool :=
  M.bind (M.ite (a_ == (-1000000000000000)) (M.ret true) (M.bind (spec_l01Finite a_) (fun x2 => M.ret x2))) (fun x1 => M.ret x1)

def spec_l01All (list : List Int) (finite : Bool) : M Bool :=
  M.bind (M.forI 0 (list.length : Int) (fun s => .inl s) (fun i1 => (fun (_ : Unit) => M.bind (M.idx list i1) (fun x2 => M.bind (spec_IsValue x2) (fun x3 => M.bind (M.ite (!x3) (M.ret true) (M.bind (M.ite finite (M.bind (M.idx list i1) (fun x6 => M.ret (x6 == (-1000000000000000)))) (M.ret false)) (fun x5 => M.ret x5))) (fun x4 => M.ite x4 (M.ret (.inr (.inr false))) (M.ret (.inl ()))))))) ()) (fun x1 => M.cont x1 (fun _ => M.ret true) (fun r => M.ret r))

def spec_IsPolynomial (c_ : List Int) : M Bool :=
  M.bind (M.ite (decide (12 < (c_.length : Int))) (M.ret true) (M.bind (spec_l01All c_ false) (fun x2 => M.ret (!x2)))) (fun x1 => M.ite x1 (M.ret false) (M.bind (M.forI 0 (c_.length : Int) (fun s => .inl s) (fun i1 => (fun (_ : Unit) => M.bind (M.idx c_ i1) (fun x4 => M.ite (x4 != (-1000000000000000)) (M.ret (.inr (.inr true))) (M.ret (.inl ()))))) ()) (fun x3 => M.cont x3 (fun _ => M.ret false) (fun r => M.ret r))))

def spec_l01Times (a_ : Int) (b : Int) : M Int :=
  M.ite ((a_ == (-1000000000000000)) || (b == (-1000000000000000))) (M.ret (-1000000000000000)) (M.ret (w64 (a_ + b)))

def spec_l01Value (a_ : Int) : M (Int × Int) :=
  M.bind (spec_IsValue a_) (fun x1 => M.ite (!x1) (M.ret (0, 3)) (M.ret (a_, 0)))

def spec_EvaluatePolynomial (c_ : List Int) (x_ : Int) : M (Int × Int) :=
  M.bind (spec_IsPolynomial c_) (fun x1 => M.ite (!x1) (M.ret (0, 1)) (M.bind (spec_IsValue x_) (fun x2 => M.ite (!x2) (M.ret (0, 2)) (M.ite (x_ == (-1000000000000000)) (M.bind (M.idx c_ 0) (fun x3 => M.ret (x3, 0))) (M.bind (M.forI 0 (c_.length : Int) (fun s => s) (fun i1 => (fun (s1 : Int) => M.bind (M.idx c_ i1) (fun x5 => M.bind (spec_l01Times x5 (w64 (i1 * x_))) (fun x6 => M.ret (.inl (mx s1 x6)))))) (-1000000000000000)) (fun x4 => M.bind (spec_l01Value x4) (fun x7 => M.ret (x7.1, x7.2))))))))

def impl_within (n_ : Int) (low : Int) (high : Int) : M Bool :=
  M.ret ((decide (low ≤ n_)) && (decide (n_ ≤ high)))

def impl_isFinite (n_ : Int) : M Bool :=
  M.bind (impl_within n_ (-1000000) 1000000) (fun x1 => M.ret x1)

def impl_IsValue (a_ : Int) : M Bool :=
  M.bind (M.ite (a_ == (-1000000000000000)) (M.ret true) (M.bind (impl_isFinite a_) (fun x2 => M.ret x2))) (fun x1 => M.ret x1)

def impl_areValues_1 (n_ : Int) : M Bool :=
  M.bind (impl_IsValue n_) (fun x1 => M.ret (!x1))

def slices_IndexFunc_int_F_impl_areValues_1 (s_ : List Int) : M Int :=
  M.bind (M.forI 0 (s_.length : Int) (fun s => .inl s) (fun i1 => (fun (_ : Unit) => M.bind (M.idx s_ i1) (fun x2 => M.bind (impl_areValues_1 x2) (fun x3 => M.ite x3 (M.ret (.inr (.inr i1))) (M.ret (.inl ())))))) ()) (fun x1 => M.cont x1 (fun _ => M.ret (-1)) (fun r => M.ret r))

def slices_ContainsFunc_int_F_impl_areValues_1 (s_ : List Int) : M Bool :=
  M.bind (slices_IndexFunc_int_F_impl_areValues_1 s_) (fun x1 => M.ret (decide (0 ≤ x1)))

def impl_areValues (list : List Int) : M Bool :=
  M.bind (slices_ContainsFunc_int_F_impl_areValues_1 list) (fun x1 => M.ret (!x1))

def impl_sumOf (list : List Int) : M Int :=
  M.bind (M.forI 0 (list.length : Int) (fun s => s) (fun i1 => (fun (s1 : Int) => M.bind (M.idx list i1) (fun x2 => M.ret (.inl (mx s1 x2))))) (-1000000000000000)) (fun x1 => M.ret x1)

def impl_IsPolynomial (c_ : List Int) : M Bool :=
  M.bind (impl_within (c_.length : Int) 1 12) (fun x1 => M.bind (M.ite x1 (M.bind (impl_areValues c_) (fun x3 => M.ret x3)) (M.ret false)) (fun x2 => M.bind (M.ite x2 (M.bind (impl_sumOf c_) (fun x5 => M.ret (x5 != (-1000000000000000)))) (M.ret false)) (fun x4 => M.ret x4)))

def impl_times (a_ : Int) (b : Int) : M Int :=
  M.ite ((a_ == (-1000000000000000)) || (b == (-1000000000000000))) (M.ret (-1000000000000000)) (M.ret (w64 (a_ + b)))

def impl_checkedValue (n_ : Int) : M (Int × Int) :=
  M.bind (impl_IsValue n_) (fun x1 => M.ite (!x1) (M.ret (0, 3)) (M.ret (n_, 0)))

def impl_EvaluatePolynomial (c_ : List Int) (x_ : Int) : M (Int × Int) :=
  M.bind (impl_IsPolynomial c_) (fun x1 => M.ite (!x1) (M.ret (0, 1)) (M.bind (impl_IsValue x_) (fun x2 => M.ite (!x2) (M.ret (0, 2)) (M.bind (M.forI 0 (c_.length : Int) (fun s => s) (fun i1 => (fun (s1 : Int) => M.bind (M.idx c_ i1) (fun x4 => M.bind (M.ite (decide (0 < i1)) (M.ite (x_ != (-1000000000000000)) (M.ret (w64 (i1 * x_))) (M.ret (-1000000000000000))) (M.ret 0)) (fun (s2 : Int) => M.bind (impl_times x4 s2) (fun x5 => M.ret (.inl (mx s1 x5))))))) (-1000000000000000)) (fun x3 => M.bind (impl_checkedValue x3) (fun x6 => M.ret (x6.1, x6.2)))))))

def laws_eqInt64S (a_ : List Int) (b : List Int) : M Bool :=
  M.ite ((a_.length : Int) != (b.length : Int)) (M.ret false) (M.bind (M.forI 0 (a_.length : Int) (fun s => .inl s) (fun i1 => (fun (_ : Unit) => M.bind (M.idx a_ i1) (fun x2 => M.bind (M.idx b i1) (fun x3 => M.ite (x2 != x3) (M.ret (.inr (.inr false))) (M.ret (.inl ())))))) ()) (fun x1 => M.cont x1 (fun _ => M.ret true) (fun r => M.ret r)))

def laws_FnExactEvaluatePolynomial (aC : List Int) (aX : Int) : M Bool :=
  M.ite (decide (1048576 < (aC.length : Int))) (M.ret true) (M.bind (laws_toInt64S aC) (fun x1 => M.bind (spec_EvaluatePolynomial x1 aX) (fun x2 => M.bind (laws_toInt64S aC) (fun x3 => M.bind (impl_EvaluatePolynomial x3 aX) (fun x4 => M.ite ((x4.1 != x2.1) || (x4.2 != x2.2)) (M.ret false) (M.bind (laws_toInt64S aC) (fun x6 => M.bind (laws_eqInt64S x3 x6) (fun x7 => M.ite (!x7) (M.ret false) (M.ret true)))))))))

end Go.Proofs.Ytdgehhbgjmgjjaa
