/-
  Plain programs: what each Go function that the law reaches computes, on lists and integers.
  Conditions: None beyond the given statement.
-/
import Derived.Test.YtdgehhbgjmgjjaaM
namespace Go.Proofs.Ytdgehhbgjmgjjaa
open Go
structure TPlace where
  From : Int
  To : Int
  Delay : Int
  Tokens : Int
structure TGraph where
  Events : Int
  Places : List TPlace
structure TBoundserror where
  x : Int
  y : Int
  signed : Bool
  code : Int
structure TErroraddressstring where
  msg : ByteArray
  addr : Int
def laws_toInt64S (a_ : List Int) : M ((List Int)) :=
  M.bind (M.make (a_.length : Int) 0) (fun l1 => M.bind (M.forI 0 (a_.length : Int) (fun s => s) (fun i1 => (fun (s1 : (List Int)) => M.bind (M.idx a_ i1) (fun x2 => M.bind (M.idx s1 i1) (fun x3 => M.bind (M.upd s1 i1 x2) (fun l2 => M.ret (.inl l2)))))) l1) (fun x1 => M.ret x1))

def spec_l01In (n_ : Int) (low : Int) (high : Int) : M Bool :=
  M.ret ((decide (low ≤ n_)) && (decide (n_ ≤ high)))

def spec_l01Finite (a_ : Int) : M Bool :=
  M.bind (spec_l01In a_ (-1000000) 1000000) (fun x1 => M.ret x1)

def spec_IsValue (a_ : Int) : M Bool :=
  M.bind (M.ite (a_ == (-1000000000000000)) (M.ret true) (M.bind (spec_l01Finite a_) (fun x2 => M.ret x2))) (fun x1 => M.ret x1)

def spec_l01All (list : List Int) (finite : Bool) : M Bool :=
  M.bind (M.forI 0 (list.length : Int) (fun s => .inl s) (fun i1 => (fun (_ : Unit) => M.bind (M.idx list i1) (fun x2 => M.bind (spec_IsValue x2) (fun x3 => M.bind (M.ite (!x3) (M.ret true) (M.bind (M.ite finite (M.bind (M.idx list i1) (fun x6 => M.ret (x6 == (-1000000000000000)))) (M.ret false)) (fun x5 => M.ret x5))) (fun x4 => M.ite x4 (M.ret (.inr (.inr false))) (M.ret (.inl ()))))))) ()) (fun x1 => M.cont x1 (fun _ => M.ret true) (fun r => M.ret r))

def spec_IsPolynomial (c_ : List Int) : M Bool :=
  M.bind (M.ite (decide (12 < (c_.length : Int))) (M.ret true) (M.bind (spec_l01All c_ false) (fun x2 => M.ret (!x2)))) (fun x1 => M.ite x1 (M.ret false) (M.bind (M.forI 0 (c_.length : Int) (fun s => .inl s) (fun i1 => (fun (_ : Unit) => M.bind (M.idx c_ i1) (fun x4 => M.ite (x4 != (-1000000000000000)) (M.ret (.inr (.inr true))) (M.ret (.inl ()))))) ()) (fun x3 => M.cont x3 (fun _ => M.ret false) (fun r => M.ret r))))

def impl_within (n_ : Int) (low : Int) (high : Int) : M Bool :=
  M.ret ((decide (low ≤ n_)) && (decide (n_ ≤ high)))

def impl_isFinite (n_ : Int) : M Bool :=
  M.bind (impl_within n_ (-1000000) 1000000) (fun x1 => M.ret x1)

def impl_IsValue (a_ : Int) : M Bool :=
  M.bind (M.ite (a_ == (-1000000000000000)) (M.ret true) (M.bind (impl_isFinite a_) (fun x2 => M.ret x2))) (fun x1 => M.ret x1)

def impl_areValues_1 (n_ : Int) : M Bool :=
  M.bind (impl_IsValue n_) (fun x1 => M.ret (!x1))

def slices_IndexFunc_int_F_impl_areValues_1 (s_ : List Int) : M Int :=
  M.bind (M.forI 0 (s_.length : Int) (fun s => .inl s) (fun i1 => (fun (_ : Unit) => M.bind (M.idx s_ i1) (fun x2 => M.bind (impl_areValues_1 x2) (fun x3 => M.ite x3 (M.ret (.inr (.inr i1))) (M.ret (.inl ())))))) ()) (fun x1 => M.cont x1 (fun _ => M.ret (-1)) (fun r => M.ret r))

def slices_ContainsFunc_int_F_impl_areValues_1 (s_ : List Int) : M Bool :=
  M.bind (slices_IndexFunc_int_F_impl_areValues_1 s_) (fun x1 => M.ret (decide (0 ≤ x1)))

def impl_areValues (list : List Int) : M Bool :=
  M.bind (slices_ContainsFunc_int_F_impl_areValues_1 list) (fun x1 => M.ret (!x1))

def impl_sumOf (list : List Int) : M Int :=
  M.bind (M.forI 0 (list.length : Int) (fun s => s) (fun i1 => (fun (s1 : Int) => M.bind (M.idx list i1) (fun x2 => M.ret (.inl (mx s1 x2))))) (-1000000000000000)) (fun x1 => M.ret x1)

def impl_IsPolynomial (c_ : List Int) : M Bool :=
  M.bind (impl_within (c_.length : Int) 1 12) (fun x1 => M.bind (M.ite x1 (M.bind (impl_areValues c_) (fun x3 => M.ret x3)) (M.ret false)) (fun x2 => M.bind (M.ite x2 (M.bind (impl_sumOf c_) (fun x5 => M.ret (x5 != (-1000000000000000)))) (M.ret false)) (fun x4 => M.ret x4)))

def laws_eqInt64S (a_ : List Int) (b : List Int) : M Bool :=
  M.ite ((a_.length : Int) != (b.length : Int)) (M.ret false) (M.bind (M.forI 0 (a_.length : Int) (fun s => .inl s) (fun i1 => (fun (_ : Unit) => M.bind (M.idx a_ i1) (fun x2 => M.bind (M.idx b i1) (fun x3 => M.ite (x2 != x3) (M.ret (.inr (.inr false))) (M.ret (.inl ())))))) ()) (fun x1 => M.cont x1 (fun _ => M.ret true) (fun r => M.ret r)))

def laws_heldInt64S (a_ : List Int) (k_ : Int) : M Int :=
  M.bind (M.forI 0 (a_.length : Int) (fun s => .inl s) (fun i1 => (fun (s1 : Int) => M.bind (M.idx a_ i1) (fun x2 => M.ite (x2 != s1) (M.ret (.inr (.inr (-1)))) (M.ret (.inl (w64 (s1 + 1))))))) k_) (fun x1 => M.cont x1 (fun s2 => M.ret s2) (fun r => M.ret r))

def laws_markInt64S (a_ : List Int) (k_ : Int) : M (Int × (List Int)) :=
  M.bind (M.forI 0 (a_.length : Int) (fun s => s) (fun i1 => (fun (s1 : (List Int) × Int) => M.bind (M.idx s1.1 i1) (fun x2 => M.bind (M.upd s1.1 i1 s1.2) (fun l1 => M.ret (.inl (l1, (w64 (s1.2 + 1)))))))) (a_, k_)) (fun x1 => M.ret (x1.2, x1.1))

def spec_l01Times (a_ : Int) (b : Int) : M Int :=
  M.ite ((a_ == (-1000000000000000)) || (b == (-1000000000000000))) (M.ret (-1000000000000000)) (M.ret (w64 (a_ + b)))

def impl_times (a_ : Int) (b : Int) : M Int :=
  M.ite ((a_ == (-1000000000000000)) || (b == (-1000000000000000))) (M.ret (-1000000000000000)) (M.ret (w64 (a_ + b)))

def impl_checkedVector (x_ : List Int) : M ((List Int) × Int) :=
  M.bind (impl_areValues x_) (fun x1 => M.ite (!x1) (M.ret (([] : List Int), 3)) (M.ret (x_, 0)))

def spec_l02Bottom (m_ : Int) (n_ : Int) : M ((List (List Int))) :=
  M.bind (M.forI 0 m_ (fun s => s) (fun _ => (fun (s1 : (List (List Int))) => M.bind (M.forI 0 n_ (fun s => s) (fun _ => (fun (s2 : (List Int)) => M.bind (M.app s2 ([(-1000000000000000)] : List Int)) (fun l1 => M.ret (.inl l1)))) ([] : List Int)) (fun x2 => M.bind (M.app s1 [x2]) (fun l2 => M.ret (.inl l2))))) ([] : List (List Int))) (fun x1 => M.ret x1)

def spec_MultiplyPolynomials (c_ : List Int) (d : List Int) : M ((List Int) × Int) :=
  M.bind (spec_IsPolynomial c_) (fun x1 => M.bind (M.ite (!x1) (M.ret true) (M.bind (spec_IsPolynomial d) (fun x3 => M.ret (!x3)))) (fun x2 => M.ite x2 (M.ret (([] : List Int), 1)) (M.bind (spec_l02Bottom 1 (w64 ((w64 ((c_.length : Int) + (d.length : Int))) - 1))) (fun x4 => M.bind (M.idx x4 0) (fun x5 => M.bind (M.forI 0 (c_.length : Int) (fun s => s) (fun i1 => (fun (s1 : (List Int)) => M.bind (M.forI 0 (d.length : Int) (fun s => s) (fun i2 => (fun (s2 : (List Int)) => M.bind (M.idx s2 (w64 (i1 + i2))) (fun x8 => M.bind (M.idx c_ i1) (fun x9 => M.bind (M.idx d i2) (fun x10 => M.bind (spec_l01Times x9 x10) (fun x11 => M.bind (M.idx s2 (w64 (i1 + i2))) (fun x12 => M.bind (M.upd s2 (w64 (i1 + i2)) (mx x8 x11)) (fun l1 => M.ret (.inl l1))))))))) s1) (fun x7 => M.ret (.inl x7)))) x5) (fun x6 => M.bind (spec_IsPolynomial x6) (fun x13 => M.ite (!x13) (M.ret (([] : List Int), 3)) (M.ret (x6, 0)))))))))

def impl_MultiplyPolynomials (c_ : List Int) (d : List Int) : M ((List Int) × Int) :=
  M.bind (impl_IsPolynomial c_) (fun x1 => M.bind (M.ite (!x1) (M.ret true) (M.bind (impl_IsPolynomial d) (fun x3 => M.ret (!x3)))) (fun x2 => M.ite x2 (M.ret (([] : List Int), 1)) (M.bind (M.make (w64 ((w64 ((c_.length : Int) + (d.length : Int))) - 1)) 0) (fun l1 => M.ite (decide (12 < (l1.length : Int))) (M.ret (([] : List Int), 3)) (M.bind (M.forI 0 (l1.length : Int) (fun s => s) (fun i1 => (fun (s1 : (List Int)) => M.bind (M.idx s1 i1) (fun x5 => M.bind (M.upd s1 i1 (-1000000000000000)) (fun l2 => M.ret (.inl l2))))) l1) (fun x4 => M.bind (M.forI 0 (c_.length : Int) (fun s => s) (fun i2 => (fun (s2 : (List Int)) => M.bind (M.idx c_ i2) (fun x7 => M.bind (M.forI 0 (d.length : Int) (fun s => s) (fun i3 => (fun (s3 : (List Int)) => M.bind (M.idx d i3) (fun x9 => M.bind (M.idx s3 (w64 (i2 + i3))) (fun x10 => M.bind (impl_times x7 x9) (fun x11 => M.bind (M.idx s3 (w64 (i2 + i3))) (fun x12 => M.bind (M.upd s3 (w64 (i2 + i3)) (mx x10 x11)) (fun l3 => M.ret (.inl l3)))))))) s2) (fun x8 => M.ret (.inl x8))))) x4) (fun x6 => M.bind (impl_checkedVector x6) (fun x13 => M.ret (x13.1, x13.2)))))))))

def laws_FnExactMultiplyPolynomials (aC : List Int) (aD : List Int) : M Bool :=
  M.ite (decide (1048576 < (aC.length : Int))) (M.ret true) (M.ite (decide (1048576 < (aD.length : Int))) (M.ret true) (M.bind (laws_toInt64S aC) (fun x1 => M.bind (laws_toInt64S aD) (fun x2 => M.bind (spec_MultiplyPolynomials x1 x2) (fun x3 => M.bind (laws_toInt64S aC) (fun x4 => M.bind (laws_toInt64S aD) (fun x5 => M.bind (impl_MultiplyPolynomials x4 x5) (fun x6 => M.bind (laws_eqInt64S x6.1 x3.1) (fun x7 => M.ite ((!x7) || (x6.2 != x3.2)) (M.ret false) (M.bind (laws_toInt64S aC) (fun x9 => M.bind (laws_eqInt64S x4 x9) (fun x10 => M.ite (!x10) (M.ret false) (M.bind (laws_toInt64S aD) (fun x11 => M.bind (laws_eqInt64S x5 x11) (fun x12 => M.ite (!x12) (M.ret false) (M.bind (laws_markInt64S x4 1) (fun x13 => M.bind (laws_markInt64S x5 x13.1) (fun x14 => M.bind (M.ite (decide (x14.1 < 0)) (M.ret true) (M.bind (laws_eqInt64S x6.1 x3.1) (fun x16 => M.ret (!x16)))) (fun x15 => M.ite (x15 || (x6.2 != x3.2)) (M.ret false) (M.bind (laws_markInt64S x6.1 1) (fun x18 => M.bind (laws_heldInt64S x18.2 1) (fun x19 => M.ite (decide (x19 < 0)) (M.ret false) (M.ite (x19 != x18.1) (M.ret false) (M.bind (laws_toInt64S aC) (fun x20 => M.bind (laws_toInt64S aD) (fun x21 => M.bind (impl_MultiplyPolynomials x20 x21) (fun x22 => M.bind (laws_eqInt64S x22.1 x3.1) (fun x23 => M.ite ((!x23) || (x22.2 != x3.2)) (M.ret false) (M.bind (laws_heldInt64S x18.2 1) (fun x25 => M.ite (decide (x25 < 0)) (M.ret false) (M.ite (x25 != x18.1) (M.ret false) (M.ret true))))))))))))))))))))))))))))))))

end Go.Proofs.Ytdgehhbgjmgjjaa
