/-
  Plain programs: what each Go function that the law reaches computes, on lists and integers.
  Conditions: None beyond the given statement.
-/
import Derived.Test.YtdgehhbgjmgjjaaM
namespace Go.Proofs.Ytdgehhbgjmgjjaa
open Go
structure TPlace where
  From : Int
  To : Int
  Delay : Int
  Tokens : Int
structure TGraph where
  Events : Int
  Places : List TPlace
structure TBoundserror where
  x : Int
  y : Int
  signed : Bool
  code : Int
structure TErroraddressstring where
  msg : ByteArray
  addr : Int
def laws_toInt64S (a_ : List Int) : M ((List Int)) :=
  M.bind (M.make (a_.length : Int) 0) (fun l1 => M.bind (M.forI 0 (a_.length : Int) (fun s => s) (fun i1 => (fun (s1 : (List Int)) => M.bind (M.idx a_ i1) (fun x2 => M.bind (M.idx s1 i1) (fun x3 => M.bind (M.upd s1 i1 x2) (fun l2 => M.ret (.inl l2)))))) l1) (fun x1 => M.ret x1))

def spec_l01In (n_ : Int) (low : Int) (high : Int) : M Bool :=
  M.ret ((decide (low ≤ n_)) && (decide (n_ ≤ high)))

def spec_l01Finite (a_ : Int) : M Bool :=
  M.bind (spec_l01In a_ (-1000000) 1000000) (fun x1 => M.ret x1)

def spec_IsValue (a_ : Int) : M Bool :=
  M.bind (M.ite (a_ == (-1000000000000000)) (M.ret true) (M.bind (spec_l01Finite a_) (fun x2 => M.ret x2))) (fun x1 => M.ret x1)

def spec_l01All (list : List Int) (finite : Bool) : M Bool :=
  M.bind (M.forI 0 (list.length : Int) (fun s => .inl s) (fun i1 => (fun (_ : Unit) => M.bind (M.idx list i1) (fun x2 => M.bind (spec_IsValue x2) (fun x3 => M.bind (M.ite (!x3) (M.ret true) (M.bind (M.ite finite (M.bind (M.idx list i1) (fun x6 => M.ret (x6 == (-1000000000000000)))) (M.ret false)) (fun x5 => M.ret x5))) (fun x4 => M.ite x4 (M.ret (.inr (.inr false))) (M.ret (.inl ()))))))) ()) (fun x1 => M.cont x1 (fun _ => M.ret true) (fun r => M.ret r))

def spec_IsPolynomial (c_ : List Int) : M Bool :=
  M.bind (M.ite (decide (12 < (c_.length : Int))) (M.ret true) (M.bind (spec_l01All c_ false) (fun x2 => M.ret (!x2)))) (fun x1 => M.ite x1 (M.ret false) (M.bind (M.forI 0 (c_.length : Int) (fun s => .inl s) (fun i1 => (fun (_ : Unit) => M.bind (M.idx c_ i1) (fun x4 => M.ite (x4 != (-1000000000000000)) (M.ret (.inr (.inr true))) (M.ret (.inl ()))))) ()) (fun x3 => M.cont x3 (fun _ => M.ret false) (fun r => M.ret r))))

def impl_within (n_ : Int) (low : Int) (high : Int) : M Bool :=
  M.ret ((decide (low ≤ n_)) && (decide (n_ ≤ high)))

def impl_isFinite (n_ : Int) : M Bool :=
  M.bind (impl_within n_ (-1000000) 1000000) (fun x1 => M.ret x1)

def impl_IsValue (a_ : Int) : M Bool :=
  M.bind (M.ite (a_ == (-1000000000000000)) (M.ret true) (M.bind (impl_isFinite a_) (fun x2 => M.ret x2))) (fun x1 => M.ret x1)

def impl_areValues_1 (n_ : Int) : M Bool :=
  M.bind (impl_IsValue n_) (fun x1 => M.ret (!x1))

def slices_IndexFunc_int_F_impl_areValues_1 (s_ : List Int) : M Int :=
  M.bind (M.forI 0 (s_.length : Int) (fun s => .inl s) (fun i1 => (fun (_ : Unit) => M.bind (M.idx s_ i1) (fun x2 => M.bind (impl_areValues_1 x2) (fun x3 => M.ite x3 (M.ret (.inr (.inr i1))) (M.ret (.inl ())))))) ()) (fun x1 => M.cont x1 (fun _ => M.ret (-1)) (fun r => M.ret r))

def slices_ContainsFunc_int_F_impl_areValues_1 (s_ : List Int) : M Bool :=
  M.bind (slices_IndexFunc_int_F_impl_areValues_1 s_) (fun x1 => M.ret (decide (0 ≤ x1)))

def impl_areValues (list : List Int) : M Bool :=
  M.bind (slices_ContainsFunc_int_F_impl_areValues_1 list) (fun x1 => M.ret (!x1))

def impl_sumOf (list : List Int) : M Int :=
  M.bind (M.forI 0 (list.length : Int) (fun s => s) (fun i1 => (fun (s1 : Int) => M.bind (M.idx list i1) (fun x2 => M.ret (.inl (mx s1 x2))))) (-1000000000000000)) (fun x1 => M.ret x1)

def impl_IsPolynomial (c_ : List Int) : M Bool :=
  M.bind (impl_within (c_.length : Int) 1 12) (fun x1 => M.bind (M.ite x1 (M.bind (impl_areValues c_) (fun x3 => M.ret x3)) (M.ret false)) (fun x2 => M.bind (M.ite x2 (M.bind (impl_sumOf c_) (fun x5 => M.ret (x5 != (-1000000000000000)))) (M.ret false)) (fun x4 => M.ret x4)))

def laws_eqInt64S (a_ : List Int) (b : List Int) : M Bool :=
  M.ite ((a_.length : Int) != (b.length : Int)) (M.ret false) (M.bind (M.forI 0 (a_.length : Int) (fun s => .inl s) (fun i1 => (fun (_ : Unit) => M.bind (M.idx a_ i1) (fun x2 => M.bind (M.idx b i1) (fun x3 => M.ite (x2 != x3) (M.ret (.inr (.inr false))) (M.ret (.inl ())))))) ()) (fun x1 => M.cont x1 (fun _ => M.ret true) (fun r => M.ret r)))

def laws_heldInt64S (a_ : List Int) (k_ : Int) : M Int :=
  M.bind (M.forI 0 (a_.length : Int) (fun s => .inl s) (fun i1 => (fun (s1 : Int) => M.bind (M.idx a_ i1) (fun x2 => M.ite (x2 != s1) (M.ret (.inr (.inr (-1)))) (M.ret (.inl (w64 (s1 + 1))))))) k_) (fun x1 => M.cont x1 (fun s2 => M.ret s2) (fun r => M.ret r))

def laws_markInt64S (a_ : List Int) (k_ : Int) : M (Int × (List Int)) :=
  M.bind (M.forI 0 (a_.length : Int) (fun s => s) (fun i1 => (fun (s1 : (List Int) × Int) => M.bind (M.idx s1.1 i1) (fun x2 => M.bind (M.upd s1.1 i1 s1.2) (fun l1 => M.ret (.inl (l1, (w64 (s1.2 + 1)))))))) (a_, k_)) (fun x1 => M.ret (x1.2, x1.1))

def spec_l09Terms (c_ : List Int) : M ((List Int)) :=
  M.bind (M.forI 0 (c_.length : Int) (fun s => s) (fun i1 => (fun (s1 : (List Int)) => M.bind (M.bind (M.idx c_ i1) (fun x2 => M.ite (x2 == (-1000000000000000)) (M.ret s1) (M.bind (M.loop (fun (s3 : (List Int)) => M.ite (decide (1 < (s3.length : Int))) (M.bind (M.idx s3 (w64 ((s3.length : Int) - 2))) (fun x4 => M.bind (M.idx s3 (w64 ((s3.length : Int) - 1))) (fun x5 => M.bind (M.idx c_ x5) (fun x6 => M.bind (M.idx c_ x4) (fun x7 => M.bind (M.idx c_ i1) (fun x8 => M.bind (M.idx c_ x5) (fun x9 => M.ite (decide ((w64 ((w64 (x8 - x9)) * (w64 (x5 - x4)))) < (w64 ((w64 (x6 - x7)) * (w64 (i1 - x5)))))) (M.ret (.inr s3)) (M.bind (M.sub s3 0 (w64 ((s3.length : Int) - 1))) (fun x10 => M.ret (.inl x10)))))))))) (M.ret (.inr s3))) s1) (fun x3 => M.bind (M.app x3 ([i1] : List Int)) (fun l1 => M.ret l1))))) (fun (s2 : (List Int)) => M.ret (.inl s2)))) ([] : List Int)) (fun x1 => M.ret x1)

def impl_essentialTerms (c_ : List Int) : M ((List Int)) :=
  M.bind (M.forI 0 (c_.length : Int) (fun s => s) (fun i1 => (fun (s1 : (List Int)) => M.bind (M.bind (M.idx c_ i1) (fun x2 => M.ite (x2 == (-1000000000000000)) (M.ret s1) (M.bind (M.loop (fun (s3 : (List Int)) => M.ite (decide (1 < (s3.length : Int))) (M.bind (M.idx s3 (w64 ((s3.length : Int) - 2))) (fun x4 => M.bind (M.idx s3 (w64 ((s3.length : Int) - 1))) (fun x5 => M.bind (M.idx c_ x5) (fun x6 => M.bind (M.idx c_ x4) (fun x7 => M.bind (M.idx c_ x4) (fun x8 => M.ite (decide ((w64 ((w64 (x2 - x8)) * (w64 (x5 - x4)))) < (w64 ((w64 (x6 - x7)) * (w64 (i1 - x4)))))) (M.ret (.inr s3)) (M.bind (M.sub s3 0 (w64 ((s3.length : Int) - 1))) (fun x9 => M.ret (.inl x9))))))))) (M.ret (.inr s3))) s1) (fun x3 => M.bind (M.app x3 ([i1] : List Int)) (fun l1 => M.ret l1))))) (fun (s2 : (List Int)) => M.ret (.inl s2)))) []) (fun x1 => M.ret x1)

def spec_l02Bottom (m_ : Int) (n_ : Int) : M ((List (List Int))) :=
  M.bind (M.forI 0 m_ (fun s => s) (fun _ => (fun (s1 : (List (List Int))) => M.bind (M.forI 0 n_ (fun s => s) (fun _ => (fun (s2 : (List Int)) => M.bind (M.app s2 ([(-1000000000000000)] : List Int)) (fun l1 => M.ret (.inl l1)))) ([] : List Int)) (fun x2 => M.bind (M.app s1 [x2]) (fun l2 => M.ret (.inl l2))))) ([] : List (List Int))) (fun x1 => M.ret x1)

def spec_l01Floor (a_ : Int) (b : Int) : M Int :=
  M.bind (M.guard (b != 0)) (fun _ => M.bind (M.guard (b != 0)) (fun _ => M.bind (M.ite (decide ((a_.tmod b) < 0)) (M.ret (w64 ((w64 (a_.tdiv b)) - 1))) (M.ret (w64 (a_.tdiv b)))) (fun (s1 : Int) => M.ret s1)))

def spec_FullPolynomial (c_ : List Int) : M ((List Int) × Int) :=
  M.bind (spec_IsPolynomial c_) (fun x1 => M.ite (!x1) (M.ret (([] : List Int), 1)) (M.bind (spec_l09Terms c_) (fun x2 => M.bind (spec_l02Bottom 1 (c_.length : Int)) (fun x3 => M.bind (M.idx x3 0) (fun x4 => M.bind (M.idx x2 0) (fun x5 => M.bind (M.idx x2 0) (fun x6 => M.bind (M.idx c_ x6) (fun x7 => M.bind (M.idx x4 x5) (fun x8 => M.bind (M.upd x4 x5 x7) (fun l1 => M.bind (M.forI 1 (x2.length : Int) (fun s => s) (fun i1 => (fun (s1 : (List Int)) => M.bind (M.idx x2 (w64 (i1 - 1))) (fun x10 => M.bind (M.idx x2 i1) (fun x11 => M.bind (M.loop (fun (s2 : (List Int) × Int) => M.ite (decide (s2.2 ≤ x11)) (M.bind (M.idx c_ x10) (fun x13 => M.bind (M.idx c_ x11) (fun x14 => M.bind (spec_l01Floor (w64 ((w64 (x13 * (w64 (x11 - s2.2)))) + (w64 (x14 * (w64 (s2.2 - x10)))))) (w64 (x11 - x10))) (fun x15 => M.bind (M.idx s2.1 s2.2) (fun x16 => M.bind (M.upd s2.1 s2.2 x15) (fun l2 => M.ret (.inl (l2, (w64 (s2.2 + 1)))))))))) (M.ret (.inr (s2.1, s2.2)))) (s1, (w64 (x10 + 1)))) (fun x12 => M.ret (.inl x12.1)))))) l1) (fun x9 => M.ret (x9, 0))))))))))))

def impl_floorDiv (a_ : Int) (b : Int) : M Int :=
  M.bind (M.guard (b != 0)) (fun _ => M.bind (M.guard (b != 0)) (fun _ => M.bind (M.ite (decide ((a_.tmod b) < 0)) (M.ret (w64 ((w64 (a_.tdiv b)) - 1))) (M.ret (w64 (a_.tdiv b)))) (fun (s1 : Int) => M.ret s1)))

def impl_FullPolynomial (c_ : List Int) : M ((List Int) × Int) :=
  M.bind (impl_IsPolynomial c_) (fun x1 => M.ite (!x1) (M.ret (([] : List Int), 1)) (M.bind (impl_essentialTerms c_) (fun x2 => M.bind (M.make (c_.length : Int) 0) (fun l1 => M.bind (M.forI 0 (l1.length : Int) (fun s => s) (fun i1 => (fun (s1 : (List Int)) => M.bind (M.idx s1 i1) (fun x4 => M.bind (M.upd s1 i1 (-1000000000000000)) (fun l2 => M.ret (.inl l2))))) l1) (fun x3 => M.bind (M.idx x2 0) (fun x5 => M.bind (M.idx x2 0) (fun x6 => M.bind (M.idx c_ x6) (fun x7 => M.bind (M.idx x3 x5) (fun x8 => M.bind (M.upd x3 x5 x7) (fun l3 => M.bind (M.forI 1 (x2.length : Int) (fun s => s) (fun i2 => (fun (s2 : (List Int)) => M.bind (M.idx x2 (w64 (i2 - 1))) (fun x10 => M.bind (M.idx x2 i2) (fun x11 => M.bind (M.loop (fun (s3 : (List Int) × Int) => M.ite (decide (s3.2 ≤ x11)) (M.bind (M.idx c_ x10) (fun x13 => M.bind (M.idx c_ x11) (fun x14 => M.bind (impl_floorDiv (w64 ((w64 (x13 * (w64 (x11 - s3.2)))) + (w64 (x14 * (w64 (s3.2 - x10)))))) (w64 (x11 - x10))) (fun x15 => M.bind (M.idx s3.1 s3.2) (fun x16 => M.bind (M.upd s3.1 s3.2 x15) (fun l4 => M.ret (.inl (l4, (w64 (s3.2 + 1)))))))))) (M.ret (.inr (s3.1, s3.2)))) (s2, x10)) (fun x12 => M.ret (.inl x12.1)))))) l3) (fun x9 => M.ret (x9, 0))))))))))))

def laws_FnExactFullPolynomial (aC : List Int) : M Bool :=
  M.ite (decide (1048576 < (aC.length : Int))) (M.ret true) (M.bind (laws_toInt64S aC) (fun x1 => M.bind (spec_FullPolynomial x1) (fun x2 => M.bind (laws_toInt64S aC) (fun x3 => M.bind (impl_FullPolynomial x3) (fun x4 => M.bind (laws_eqInt64S x4.1 x2.1) (fun x5 => M.ite ((!x5) || (x4.2 != x2.2)) (M.ret false) (M.bind (laws_toInt64S aC) (fun x7 => M.bind (laws_eqInt64S x3 x7) (fun x8 => M.ite (!x8) (M.ret false) (M.bind (laws_markInt64S x3 1) (fun x9 => M.bind (M.ite (decide (x9.1 < 0)) (M.ret true) (M.bind (laws_eqInt64S x4.1 x2.1) (fun x11 => M.ret (!x11)))) (fun x10 => M.ite (x10 || (x4.2 != x2.2)) (M.ret false) (M.bind (laws_markInt64S x4.1 1) (fun x13 => M.bind (laws_heldInt64S x13.2 1) (fun x14 => M.ite (decide (x14 < 0)) (M.ret false) (M.ite (x14 != x13.1) (M.ret false) (M.bind (laws_toInt64S aC) (fun x15 => M.bind (impl_FullPolynomial x15) (fun x16 => M.bind (laws_eqInt64S x16.1 x2.1) (fun x17 => M.ite ((!x17) || (x16.2 != x2.2)) (M.ret false) (M.bind (laws_heldInt64S x13.2 1) (fun x19 => M.ite (decide (x19 < 0)) (M.ret false) (M.ite (x19 != x13.1) (M.ret false) (M.ret true))))))))))))))))))))))))

end Go.Proofs.Ytdgehhbgjmgjjaa
