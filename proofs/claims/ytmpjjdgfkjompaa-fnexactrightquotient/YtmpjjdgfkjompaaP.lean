/-
  Plain programs: what each Go function that the law reaches computes, on lists and integers.
  Conditions: None beyond the given statement.
-/
import Derived.Test.YtmpjjdgfkjompaaM
namespace Go.Proofs.Ytmpjjdgfkjompaa
open Go
structure TRatio where
  Num : Int
  Den : Int
structure TCorner where
  At : TRatio
  Times : Int
structure TL01source where
  code : List Int
  at_ : Int
  seed : Int
structure TBoundserror where
  x : Int
  y : Int
  signed : Bool
  code : Int
structure TErroraddressstring where
  msg : ByteArray
  addr : Int
def spec_l01In (n_ : Int) (low : Int) (high : Int) : M Bool :=
  M.ret ((decide (low ≤ n_)) && (decide (n_ ≤ high)))

def impl_within (n_ : Int) (low : Int) (high : Int) : M Bool :=
  M.ret ((decide (low ≤ n_)) && (decide (n_ ≤ high)))

def laws_eqInt64S (a_ : List Int) (b : List Int) : M Bool :=
  M.ite ((a_.length : Int) != (b.length : Int)) (M.ret false) (M.bind (M.forI 0 (a_.length : Int) (fun s => .inl s) (fun i1 => (fun (_ : Unit) => M.bind (M.idx a_ i1) (fun x2 => M.bind (M.idx b i1) (fun x3 => M.ite (x2 != x3) (M.ret (.inr (.inr false))) (M.ret (.inl ())))))) ()) (fun x1 => M.cont x1 (fun _ => M.ret true) (fun r => M.ret r)))

def laws_heldInt64S (a_ : List Int) (k_ : Int) : M Int :=
  M.bind (M.forI 0 (a_.length : Int) (fun s => .inl s) (fun i1 => (fun (s1 : Int) => M.bind (M.idx a_ i1) (fun x2 => M.ite (x2 != s1) (M.ret (.inr (.inr (-1)))) (M.ret (.inl (w64 (s1 + 1))))))) k_) (fun x1 => M.cont x1 (fun s2 => M.ret s2) (fun r => M.ret r))

def laws_markInt64S (a_ : List Int) (k_ : Int) : M (Int × (List Int)) :=
  M.bind (M.forI 0 (a_.length : Int) (fun s => s) (fun i1 => (fun (s1 : (List Int) × Int) => M.bind (M.idx s1.1 i1) (fun x2 => M.bind (M.upd s1.1 i1 s1.2) (fun l1 => M.ret (.inl (l1, (w64 (s1.2 + 1)))))))) (a_, k_)) (fun x1 => M.ret (x1.2, x1.1))

def spec_l02Bottom (m_ : Int) (n_ : Int) : M ((List (List Int))) :=
  M.bind (M.forI 0 m_ (fun s => s) (fun _ => (fun (s1 : (List (List Int))) => M.bind (M.forI 0 n_ (fun s => s) (fun _ => (fun (s2 : (List Int)) => M.bind (M.app s2 ([(-1000000000000000)] : List Int)) (fun l1 => M.ret (.inl l1)))) ([] : List Int)) (fun x2 => M.bind (M.app s1 [x2]) (fun l2 => M.ret (.inl l2))))) ([] : List (List Int))) (fun x1 => M.ret x1)

def laws_toInt64S (a_ : List Int) : M ((List Int)) :=
  M.bind (M.make (a_.length : Int) 0) (fun l1 => M.bind (M.forI 0 (a_.length : Int) (fun s => s) (fun i1 => (fun (s1 : (List Int)) => M.bind (M.idx a_ i1) (fun x2 => M.bind (M.idx s1 i1) (fun x3 => M.bind (M.upd s1 i1 x2) (fun l2 => M.ret (.inl l2)))))) l1) (fun x1 => M.ret x1))

def spec_l01Finite (a_ : Int) : M Bool :=
  M.bind (spec_l01In a_ (-1000000) 1000000) (fun x1 => M.ret x1)

def spec_IsValue (a_ : Int) : M Bool :=
  M.bind (M.ite (a_ == (-1000000000000000)) (M.ret true) (M.bind (spec_l01Finite a_) (fun x2 => M.ret x2))) (fun x1 => M.ret x1)

def spec_l01All (list : List Int) (finite : Bool) : M Bool :=
  M.bind (M.forI 0 (list.length : Int) (fun s => .inl s) (fun i1 => (fun (_ : Unit) => M.bind (M.idx list i1) (fun x2 => M.bind (spec_IsValue x2) (fun x3 => M.bind (M.ite (!x3) (M.ret true) (M.bind (M.ite finite (M.bind (M.idx list i1) (fun x6 => M.ret (x6 == (-1000000000000000)))) (M.ret false)) (fun x5 => M.ret x5))) (fun x4 => M.ite x4 (M.ret (.inr (.inr false))) (M.ret (.inl ()))))))) ()) (fun x1 => M.cont x1 (fun _ => M.ret true) (fun r => M.ret r))

def impl_isFinite (n_ : Int) : M Bool :=
  M.bind (impl_within n_ (-1000000) 1000000) (fun x1 => M.ret x1)

def impl_IsValue (a_ : Int) : M Bool :=
  M.bind (M.ite (a_ == (-1000000000000000)) (M.ret true) (M.bind (impl_isFinite a_) (fun x2 => M.ret x2))) (fun x1 => M.ret x1)

def impl_areValues_1 (n_ : Int) : M Bool :=
  M.bind (impl_IsValue n_) (fun x1 => M.ret (!x1))

def slices_IndexFunc_int_F_impl_areValues_1 (s_ : List Int) : M Int :=
  M.bind (M.forI 0 (s_.length : Int) (fun s => .inl s) (fun i1 => (fun (_ : Unit) => M.bind (M.idx s_ i1) (fun x2 => M.bind (impl_areValues_1 x2) (fun x3 => M.ite x3 (M.ret (.inr (.inr i1))) (M.ret (.inl ())))))) ()) (fun x1 => M.cont x1 (fun _ => M.ret (-1)) (fun r => M.ret r))

def slices_ContainsFunc_int_F_impl_areValues_1 (s_ : List Int) : M Bool :=
  M.bind (slices_IndexFunc_int_F_impl_areValues_1 s_) (fun x1 => M.ret (decide (0 ≤ x1)))

def impl_areValues (list : List Int) : M Bool :=
  M.bind (slices_ContainsFunc_int_F_impl_areValues_1 list) (fun x1 => M.ret (!x1))

def impl_times (a_ : Int) (b : Int) : M Int :=
  M.ite ((a_ == (-1000000000000000)) || (b == (-1000000000000000))) (M.ret (-1000000000000000)) (M.ret (w64 (a_ + b)))

def laws_szInt64S (a_ : List Int) (left : Int) : M Int :=
  M.ite (decide ((w64 (left - (a_.length : Int))) < 0)) (M.ret (-1)) (M.ret (w64 (left - (a_.length : Int))))

def laws_szInt64SS (a_ : List (List Int)) (left : Int) : M Int :=
  M.ite (decide ((w64 (left - (a_.length : Int))) < 0)) (M.ret (-1)) (M.bind (M.forI 0 (a_.length : Int) (fun s => .inl s) (fun i1 => (fun (s1 : Int) => M.bind (M.idx a_ i1) (fun x2 => M.bind (laws_szInt64S x2 s1) (fun x3 => M.ite (decide (x3 < 0)) (M.ret (.inr (.inr (-1)))) (M.ret (.inl x3)))))) (w64 (left - (a_.length : Int)))) (fun x1 => M.cont x1 (fun s2 => M.ret s2) (fun r => M.ret r)))

def laws_toInt64SS (a_ : List (List Int)) : M ((List (List Int))) :=
  M.bind (M.make (a_.length : Int) []) (fun l1 => M.bind (M.forI 0 (a_.length : Int) (fun s => s) (fun i1 => (fun (s1 : (List (List Int))) => M.bind (M.idx a_ i1) (fun x2 => M.bind (laws_toInt64S x2) (fun x3 => M.bind (M.idx s1 i1) (fun x4 => M.bind (M.upd s1 i1 x3) (fun l2 => M.ret (.inl l2))))))) l1) (fun x1 => M.ret x1))

def spec_l02Vector (x_ : List Int) : M Bool :=
  M.bind (spec_l01In (x_.length : Int) 1 10) (fun x1 => M.bind (M.ite x1 (M.bind (spec_l01All x_ false) (fun x3 => M.ret x3)) (M.ret false)) (fun x2 => M.ret x2))

def spec_IsMatrix (a_ : List (List Int)) : M Bool :=
  M.ite ((decide ((a_.length : Int) < 1)) || (decide (10 < (a_.length : Int)))) (M.ret false) (M.bind (M.forI 0 (a_.length : Int) (fun s => .inl s) (fun i1 => (fun (_ : Unit) => M.bind (M.idx a_ i1) (fun x3 => M.bind (spec_l02Vector x3) (fun x4 => M.bind (M.ite (!x4) (M.ret true) (M.bind (M.idx a_ i1) (fun x6 => M.bind (M.idx a_ 0) (fun x7 => M.ret ((x6.length : Int) != (x7.length : Int)))))) (fun x5 => M.ite x5 (M.ret (.inr (.inr false))) (M.ret (.inl ()))))))) ()) (fun x2 => M.cont x2 (fun _ => M.ret true) (fun r => M.ret r)))

def spec_l08Fits (a_ : List (List Int)) : M Bool :=
  M.bind (M.loop (fun (s1 : Int) => M.bind (M.idx a_ 0) (fun x2 => M.ite (decide (s1 < (x2.length : Int))) (M.bind (M.forI 0 (a_.length : Int) (fun s => s) (fun i1 => (fun (s3 : Bool) => M.bind (M.ite s3 (M.ret true) (M.bind (M.idx a_ i1) (fun x5 => M.bind (M.idx x5 s1) (fun x6 => M.ret (x6 != (-1000000000000000)))))) (fun x4 => M.ret (.inl x4)))) false) (fun x3 => M.ite (!x3) (M.ret (.inr (.inr false))) (M.ret (.inl (w64 (s1 + 1)))))) (M.ret (.inr (.inl s1))))) 0) (fun x1 => M.cont x1 (fun _ => M.ret true) (fun r => M.ret r))

def spec_l08Sub (a_ : List (List Int)) (b : List Int) : M ((List Int)) :=
  M.bind (M.loop (fun (s1 : (List Int) × Int) => M.bind (M.idx a_ 0) (fun x2 => M.ite (decide (s1.2 < (x2.length : Int))) (M.bind (M.forI 0 (a_.length : Int) (fun s => s) (fun i1 => (fun (s2 : Int × Bool) => M.bind (M.bind (M.idx a_ i1) (fun x4 => M.bind (M.idx x4 s1.2) (fun x5 => M.ite (x5 == (-1000000000000000)) (M.ret (s2.1, s2.2)) (M.bind (M.idx b i1) (fun x6 => M.bind (M.ite (x6 != (-1000000000000000)) (M.bind (M.idx b i1) (fun x7 => M.bind (M.idx a_ i1) (fun x8 => M.bind (M.idx x8 s1.2) (fun x9 => M.ret (w64 (x7 - x9)))))) (M.ret (-1000000000000000))) (fun (s4 : Int) => M.ite ((!s2.2) || (decide (s4 < s2.1))) (M.ret (s4, true)) (M.ret (s2.1, s2.2)))))))) (fun (s3 : Int × Bool) => M.ret (.inl (s3.1, s3.2))))) (0, false)) (fun x3 => M.bind (M.app s1.1 ([x3.1] : List Int)) (fun l1 => M.ret (.inl (l1, (w64 (s1.2 + 1))))))) (M.ret (.inr (s1.1, s1.2))))) (([] : List Int), 0)) (fun x1 => M.ret x1.1)

def impl_IsMatrix_1 (row : List Int) (z0 : List (List Int)) : M Bool :=
  M.bind (M.idx z0 0) (fun x1 => M.bind (M.ite ((row.length : Int) != (x1.length : Int)) (M.ret true) (M.bind (impl_areValues row) (fun x3 => M.ret (!x3)))) (fun x2 => M.ret x2))

def slices_IndexFunc_row_F_impl_IsMatrix_1 (s_ : List (List Int)) (f0 : List (List Int)) : M Int :=
  M.bind (M.forI 0 (s_.length : Int) (fun s => .inl s) (fun i1 => (fun (_ : Unit) => M.bind (M.idx s_ i1) (fun x2 => M.bind (impl_IsMatrix_1 x2 f0) (fun x3 => M.ite x3 (M.ret (.inr (.inr i1))) (M.ret (.inl ())))))) ()) (fun x1 => M.cont x1 (fun _ => M.ret (-1)) (fun r => M.ret r))

def slices_ContainsFunc_row_F_impl_IsMatrix_1 (s_ : List (List Int)) (f0 : List (List Int)) : M Bool :=
  M.bind (slices_IndexFunc_row_F_impl_IsMatrix_1 s_ f0) (fun x1 => M.ret (decide (0 ≤ x1)))

def impl_IsMatrix (a_ : List (List Int)) : M Bool :=
  M.bind (impl_within (a_.length : Int) 1 10) (fun x1 => M.bind (M.ite (!x1) (M.ret true) (M.bind (M.idx a_ 0) (fun x3 => M.bind (impl_within (x3.length : Int) 1 10) (fun x4 => M.ret (!x4))))) (fun x2 => M.ite x2 (M.ret false) (M.bind (slices_ContainsFunc_row_F_impl_IsMatrix_1 a_ a_) (fun x5 => M.ret (!x5)))))

def impl_isVector (x_ : List Int) : M Bool :=
  M.bind (impl_within (x_.length : Int) 1 10) (fun x1 => M.bind (M.ite x1 (M.bind (impl_areValues x_) (fun x3 => M.ret x3)) (M.ret false)) (fun x2 => M.ret x2))

def impl_greatestSub (a_ : List (List Int)) (b : List Int) : M ((List Int) × Int) :=
  M.bind (impl_IsMatrix a_) (fun x1 => M.bind (M.ite (!x1) (M.ret true) (M.bind (impl_isVector b) (fun x3 => M.ret (!x3)))) (fun x2 => M.ite x2 (M.ret (([] : List Int), 1)) (M.ite ((a_.length : Int) != (b.length : Int)) (M.ret (([] : List Int), 5)) (M.bind (M.idx a_ 0) (fun x4 => M.bind (M.make (x4.length : Int) 0) (fun l1 => M.bind (M.forI 0 (l1.length : Int) (fun s => .inl s) (fun i1 => (fun (s1 : (List Int)) => M.bind (M.forI 0 (a_.length : Int) (fun s => s) (fun i2 => (fun (s3 : (List Int) × Bool) => M.bind (M.bind (M.idx a_ i2) (fun x7 => M.bind (M.idx x7 i1) (fun x8 => M.ite (x8 == (-1000000000000000)) (M.ret (s3.1, s3.2)) (M.bind (M.idx b i2) (fun x9 => M.bind (M.idx x7 i1) (fun x10 => M.bind (impl_times x9 (w64 (0 - x10))) (fun x11 => M.bind (M.ite (!s3.2) (M.ret true) (M.bind (M.idx s3.1 i1) (fun x13 => M.ret (decide (x11 < x13))))) (fun x12 => M.ite x12 (M.bind (M.idx s3.1 i1) (fun x14 => M.bind (M.upd s3.1 i1 x11) (fun l2 => M.ret (l2, true)))) (M.ret (s3.1, s3.2)))))))))) (fun (s4 : (List Int) × Bool) => M.ret (.inl (s4.1, s4.2))))) (s1, false)) (fun x6 => M.ite (!x6.2) (M.ret (.inr (.inr (([] : List Int), 5)))) (M.ret (.inl x6.1))))) l1) (fun x5 => M.cont x5 (fun s2 => M.ret (s2, 0)) (fun r => M.ret r))))))))

def laws_eqInt64SS (a_ : List (List Int)) (b : List (List Int)) : M Bool :=
  M.ite ((a_.length : Int) != (b.length : Int)) (M.ret false) (M.bind (M.forI 0 (a_.length : Int) (fun s => .inl s) (fun i1 => (fun (_ : Unit) => M.bind (M.idx a_ i1) (fun x2 => M.bind (M.idx b i1) (fun x3 => M.bind (laws_eqInt64S x2 x3) (fun x4 => M.ite (!x4) (M.ret (.inr (.inr false))) (M.ret (.inl ()))))))) ()) (fun x1 => M.cont x1 (fun _ => M.ret true) (fun r => M.ret r)))

def laws_markInt64SS (a_ : List (List Int)) (k_ : Int) : M (Int × (List (List Int))) :=
  M.bind (M.forI 0 (a_.length : Int) (fun s => s) (fun i1 => (fun (s1 : (List (List Int)) × Int) => M.bind (M.idx s1.1 i1) (fun x2 => M.bind (laws_markInt64S x2 s1.2) (fun x3 => M.ret (.inl ((s1.1.set i1.toNat x3.2), x3.1)))))) (a_, k_)) (fun x1 => M.ret (x1.2, x1.1))

def spec_l02Turn (a_ : List (List Int)) : M ((List (List Int))) :=
  M.bind (M.idx a_ 0) (fun x1 => M.bind (spec_l02Bottom (x1.length : Int) (a_.length : Int)) (fun x2 => M.bind (M.forI 0 (a_.length : Int) (fun s => s) (fun i1 => (fun (s1 : (List (List Int))) => M.bind (M.loop (fun (s2 : (List (List Int)) × Int) => M.bind (M.idx a_ i1) (fun x5 => M.ite (decide (s2.2 < (x5.length : Int))) (M.bind (M.idx s2.1 s2.2) (fun x6 => M.bind (M.idx a_ i1) (fun x7 => M.bind (M.idx x7 s2.2) (fun x8 => M.bind (M.idx x6 i1) (fun x9 => M.bind (M.upd x6 i1 x8) (fun l1 => M.ret (.inl ((s2.1.set s2.2.toNat l1), (w64 (s2.2 + 1)))))))))) (M.ret (.inr (s2.1, s2.2))))) (s1, 0)) (fun x4 => M.ret (.inl x4.1)))) x2) (fun x3 => M.ret x3)))

def spec_l03Result (a_ : List (List Int)) : M ((List (List Int)) × Int) :=
  M.bind (spec_IsMatrix a_) (fun x1 => M.ite (!x1) (M.ret (([] : List (List Int)), 3)) (M.ret (a_, 0)))

def impl_transposed_1 (i : Int) (j : Int) (z0 : List (List Int)) : M Int :=
  M.bind (M.idx z0 j) (fun x1 => M.bind (M.idx x1 i) (fun x2 => M.ret x2))

def impl_matrixBy_F_impl_transposed_1 (m_ : Int) (n_ : Int) (entry0 : List (List Int)) : M ((List (List Int))) :=
  M.bind (M.make m_ []) (fun l1 => M.bind (M.forI 0 (l1.length : Int) (fun s => s) (fun i1 => (fun (s1 : (List (List Int))) => M.bind (M.make n_ 0) (fun l2 => M.bind (M.idx s1 i1) (fun x2 => M.bind (M.upd s1 i1 l2) (fun l3 => M.bind (M.idx l3 i1) (fun x3 => M.bind (M.forI 0 (x3.length : Int) (fun s => s) (fun i2 => (fun (s2 : (List (List Int))) => M.bind (M.idx s2 i1) (fun x5 => M.bind (impl_transposed_1 i1 i2 entry0) (fun x6 => M.bind (M.idx x5 i2) (fun x7 => M.bind (M.upd x5 i2 x6) (fun l4 => M.ret (.inl (s2.set i1.toNat l4)))))))) l3) (fun x4 => M.ret (.inl x4)))))))) l1) (fun x1 => M.ret x1))

def impl_transposed (a_ : List (List Int)) : M ((List (List Int))) :=
  M.bind (M.idx a_ 0) (fun x1 => M.bind (impl_matrixBy_F_impl_transposed_1 (x1.length : Int) (a_.length : Int) a_) (fun x2 => M.ret x2))

def impl_leftQuotient (a_ : List (List Int)) (b : List (List Int)) : M ((List (List Int)) × Int) :=
  M.bind (impl_IsMatrix a_) (fun x1 => M.bind (M.ite (!x1) (M.ret true) (M.bind (impl_IsMatrix b) (fun x3 => M.ret (!x3)))) (fun x2 => M.ite x2 (M.ret (([] : List (List Int)), 1)) (M.ite ((a_.length : Int) != (b.length : Int)) (M.ret (([] : List (List Int)), 5)) (M.bind (impl_transposed b) (fun x4 => M.bind (M.forI 0 (x4.length : Int) (fun s => .inl s) (fun i1 => (fun (s1 : (List (List Int))) => M.bind (M.idx x4 i1) (fun x6 => M.bind (impl_greatestSub a_ x6) (fun x7 => M.ite (x7.2 != 0) (M.ret (.inr (.inr (([] : List (List Int)), x7.2)))) (M.bind (M.app s1 [x7.1]) (fun l1 => M.ret (.inl l1))))))) []) (fun x5 => M.cont x5 (fun s2 => M.bind (impl_transposed s2) (fun x8 => M.ret (x8, 0))) (fun r => M.ret r)))))))

def impl_checkedMatrix_1 (row : List Int) : M Bool :=
  M.bind (impl_areValues row) (fun x1 => M.ret (!x1))

def slices_IndexFunc_row_F_impl_checkedMatrix_1 (s_ : List (List Int)) : M Int :=
  M.bind (M.forI 0 (s_.length : Int) (fun s => .inl s) (fun i1 => (fun (_ : Unit) => M.bind (M.idx s_ i1) (fun x2 => M.bind (impl_checkedMatrix_1 x2) (fun x3 => M.ite x3 (M.ret (.inr (.inr i1))) (M.ret (.inl ())))))) ()) (fun x1 => M.cont x1 (fun _ => M.ret (-1)) (fun r => M.ret r))

def slices_ContainsFunc_row_F_impl_checkedMatrix_1 (s_ : List (List Int)) : M Bool :=
  M.bind (slices_IndexFunc_row_F_impl_checkedMatrix_1 s_) (fun x1 => M.ret (decide (0 ≤ x1)))

def impl_checkedMatrix (a_ : List (List Int)) : M ((List (List Int)) × Int) :=
  M.bind (slices_ContainsFunc_row_F_impl_checkedMatrix_1 a_) (fun x1 => M.ite x1 (M.ret (([] : List (List Int)), 3)) (M.ret (a_, 0)))

def laws_heldInt64SS (a_ : List (List Int)) (k_ : Int) : M Int :=
  M.bind (M.forI 0 (a_.length : Int) (fun s => .inl s) (fun i1 => (fun (s1 : Int) => M.bind (M.idx a_ i1) (fun x2 => M.bind (laws_heldInt64S x2 s1) (fun x3 => M.ite (decide (x3 < 0)) (M.ret (.inr (.inr (-1)))) (M.ret (.inl x3)))))) k_) (fun x1 => M.cont x1 (fun s2 => M.ret s2) (fun r => M.ret r))

def spec_RightQuotient (a_ : List (List Int)) (b : List (List Int)) : M ((List (List Int)) × Int) :=
  M.bind (spec_IsMatrix a_) (fun x1 => M.bind (M.ite (!x1) (M.ret true) (M.bind (spec_IsMatrix b) (fun x3 => M.ret (!x3)))) (fun x2 => M.ite x2 (M.ret (([] : List (List Int)), 1)) (M.bind (M.bind (M.idx a_ 0) (fun x4 => M.bind (M.idx b 0) (fun x5 => M.ite ((x4.length : Int) != (x5.length : Int)) (M.ret true) (M.bind (spec_l02Turn a_) (fun x6 => M.bind (spec_l08Fits x6) (fun x7 => M.ret (!x7))))))) (fun (s1 : Bool) => M.ite s1 (M.ret (([] : List (List Int)), 5)) (M.bind (spec_l02Turn a_) (fun x8 => M.bind (M.forI 0 (b.length : Int) (fun s => s) (fun i1 => (fun (s2 : (List (List Int))) => M.bind (M.idx b i1) (fun x10 => M.bind (spec_l08Sub x8 x10) (fun x11 => M.bind (M.app s2 [x11]) (fun l1 => M.ret (.inl l1)))))) ([] : List (List Int))) (fun x9 => M.bind (spec_l03Result x9) (fun x12 => M.ret (x12.1, x12.2)))))))))

def impl_RightQuotient (a_ : List (List Int)) (b : List (List Int)) : M ((List (List Int)) × Int) :=
  M.bind (impl_IsMatrix a_) (fun x1 => M.bind (M.ite (!x1) (M.ret true) (M.bind (impl_IsMatrix b) (fun x3 => M.ret (!x3)))) (fun x2 => M.ite x2 (M.ret (([] : List (List Int)), 1)) (M.bind (impl_transposed a_) (fun x4 => M.bind (impl_transposed b) (fun x5 => M.bind (impl_leftQuotient x4 x5) (fun x6 => M.ite (x6.2 != 0) (M.ret (([] : List (List Int)), x6.2)) (M.bind (impl_transposed x6.1) (fun x7 => M.bind (impl_checkedMatrix x7) (fun x8 => M.ret (x8.1, x8.2))))))))))

def laws_FnExactRightQuotient (aA : List (List Int)) (aB : List (List Int)) : M Bool :=
  M.bind (laws_szInt64SS aA 1048576) (fun x1 => M.ite (decide (x1 < 0)) (M.ret true) (M.bind (laws_szInt64SS aB x1) (fun x2 => M.ite (decide (x2 < 0)) (M.ret true) (M.bind (laws_toInt64SS aA) (fun x3 => M.bind (laws_toInt64SS aB) (fun x4 => M.bind (spec_RightQuotient x3 x4) (fun x5 => M.bind (laws_toInt64SS aA) (fun x6 => M.bind (laws_toInt64SS aB) (fun x7 => M.bind (impl_RightQuotient x6 x7) (fun x8 => M.bind (laws_eqInt64SS x8.1 x5.1) (fun x9 => M.ite ((!x9) || (x8.2 != x5.2)) (M.ret false) (M.bind (laws_toInt64SS aA) (fun x11 => M.bind (laws_eqInt64SS x6 x11) (fun x12 => M.ite (!x12) (M.ret false) (M.bind (laws_toInt64SS aB) (fun x13 => M.bind (laws_eqInt64SS x7 x13) (fun x14 => M.ite (!x14) (M.ret false) (M.bind (laws_markInt64SS x6 1) (fun x15 => M.bind (laws_markInt64SS x7 x15.1) (fun x16 => M.bind (M.ite (decide (x16.1 < 0)) (M.ret true) (M.bind (laws_eqInt64SS x8.1 x5.1) (fun x18 => M.ret (!x18)))) (fun x17 => M.ite (x17 || (x8.2 != x5.2)) (M.ret false) (M.bind (laws_markInt64SS x8.1 1) (fun x20 => M.bind (laws_heldInt64SS x20.2 1) (fun x21 => M.ite (decide (x21 < 0)) (M.ret false) (M.ite (x21 != x20.1) (M.ret false) (M.bind (laws_toInt64SS aA) (fun x22 => M.bind (laws_toInt64SS aB) (fun x23 => M.bind (impl_RightQuotient x22 x23) (fun x24 => M.bind (laws_eqInt64SS x24.1 x5.1) (fun x25 => M.ite ((!x25) || (x24.2 != x5.2)) (M.ret false) (M.bind (laws_heldInt64SS x20.2 1) (fun x27 => M.ite (decide (x27 < 0)) (M.ret false) (M.ite (x27 != x20.1) (M.ret false) (M.ret true))))))))))))))))))))))))))))))))))

end Go.Proofs.Ytmpjjdgfkjompaa
