/-
  Plain programs: what each Go function that the law reaches computes, on lists and integers.
  Conditions: None beyond the given statement.
-/
import Derived.Test.YtfhndofgglohoaaM
namespace Go.Proofs.Ytfhndofgglohoaa
open Go
structure TRatio where
  Num : Int
  Den : Int
structure TCorner where
  At : TRatio
  Times : Int
structure TPermanent where
  weight : Int
  count : Int
structure TBoundserror where
  x : Int
  y : Int
  signed : Bool
  code : Int
structure TErroraddressstring where
  msg : ByteArray
  addr : Int
def laws_toInt64S (a_ : List Int) : M ((List Int)) :=
  M.bind (M.make (a_.length : Int) 0) (fun l1 => M.bind (M.forI 0 (a_.length : Int) (fun s => s) (fun i1 => (fun (s1 : (List Int)) => M.bind (M.idx a_ i1) (fun x2 => M.bind (M.idx s1 i1) (fun x3 => M.bind (M.upd s1 i1 x2) (fun l2 => M.ret (.inl l2)))))) l1) (fun x1 => M.ret x1))

def spec_l01In (n_ : Int) (low : Int) (high : Int) : M Bool :=
  M.ret ((decide (low ≤ n_)) && (decide (n_ ≤ high)))

def spec_l01Finite (a_ : Int) : M Bool :=
  M.bind (spec_l01In a_ (-1000000) 1000000) (fun x1 => M.ret x1)

def spec_IsValue (a_ : Int) : M Bool :=
  M.bind (M.ite (a_ == (-1000000000000000)) (M.ret true) (M.bind (spec_l01Finite a_) (fun x2 => M.ret x2))) (fun x1 => M.ret x1)

def spec_l01All (list : List Int) (finite : Bool) : M Bool :=
  M.bind (M.forI 0 (list.length : Int) (fun s => .inl s) (fun i1 => (fun (_ : Unit) => M.bind (M.idx list i1) (fun x2 => M.bind (spec_IsValue x2) (fun x3 => M.bind (M.ite (!x3) (M.ret true) (M.bind (M.ite finite (M.bind (M.idx list i1) (fun x6 => M.ret (x6 == (-1000000000000000)))) (M.ret false)) (fun x5 => M.ret x5))) (fun x4 => M.ite x4 (M.ret (.inr (.inr false))) (M.ret (.inl ()))))))) ()) (fun x1 => M.cont x1 (fun _ => M.ret true) (fun r => M.ret r))

def spec_IsPolynomial (c_ : List Int) : M Bool :=
  M.bind (M.ite (decide (12 < (c_.length : Int))) (M.ret true) (M.bind (spec_l01All c_ false) (fun x2 => M.ret (!x2)))) (fun x1 => M.ite x1 (M.ret false) (M.bind (M.forI 0 (c_.length : Int) (fun s => .inl s) (fun i1 => (fun (_ : Unit) => M.bind (M.idx c_ i1) (fun x4 => M.ite (x4 != (-1000000000000000)) (M.ret (.inr (.inr true))) (M.ret (.inl ()))))) ()) (fun x3 => M.cont x3 (fun _ => M.ret false) (fun r => M.ret r))))

def impl_within (n_ : Int) (low : Int) (high : Int) : M Bool :=
  M.ret ((decide (low ≤ n_)) && (decide (n_ ≤ high)))

def impl_isFinite (n_ : Int) : M Bool :=
  M.bind (impl_within n_ (-1000000) 1000000) (fun x1 => M.ret x1)

def impl_IsValue (a_ : Int) : M Bool :=
  M.bind (M.ite (a_ == (-1000000000000000)) (M.ret true) (M.bind (impl_isFinite a_) (fun x2 => M.ret x2))) (fun x1 => M.ret x1)

def impl_areValues_1 (n_ : Int) : M Bool :=
  M.bind (impl_IsValue n_) (fun x1 => M.ret (!x1))

def slices_IndexFunc_int_F_impl_areValues_1 (s_ : List Int) : M Int :=
  M.bind (M.forI 0 (s_.length : Int) (fun s => .inl s) (fun i1 => (fun (_ : Unit) => M.bind (M.idx s_ i1) (fun x2 => M.bind (impl_areValues_1 x2) (fun x3 => M.ite x3 (M.ret (.inr (.inr i1))) (M.ret (.inl ())))))) ()) (fun x1 => M.cont x1 (fun _ => M.ret (-1)) (fun r => M.ret r))

def slices_ContainsFunc_int_F_impl_areValues_1 (s_ : List Int) : M Bool :=
  M.bind (slices_IndexFunc_int_F_impl_areValues_1 s_) (fun x1 => M.ret (decide (0 ≤ x1)))

def impl_areValues (list : List Int) : M Bool :=
  M.bind (slices_ContainsFunc_int_F_impl_areValues_1 list) (fun x1 => M.ret (!x1))

def laws_eqInt64S (a_ : List Int) (b : List Int) : M Bool :=
  M.ite ((a_.length : Int) != (b.length : Int)) (M.ret false) (M.bind (M.forI 0 (a_.length : Int) (fun s => .inl s) (fun i1 => (fun (_ : Unit) => M.bind (M.idx a_ i1) (fun x2 => M.bind (M.idx b i1) (fun x3 => M.ite (x2 != x3) (M.ret (.inr (.inr false))) (M.ret (.inl ())))))) ()) (fun x1 => M.cont x1 (fun _ => M.ret true) (fun r => M.ret r)))

def laws_heldInt64S (a_ : List Int) (k_ : Int) : M Int :=
  M.bind (M.forI 0 (a_.length : Int) (fun s => .inl s) (fun i1 => (fun (s1 : Int) => M.bind (M.idx a_ i1) (fun x2 => M.ite (x2 != s1) (M.ret (.inr (.inr (-1)))) (M.ret (.inl (w64 (s1 + 1))))))) k_) (fun x1 => M.cont x1 (fun s2 => M.ret s2) (fun r => M.ret r))

def laws_markInt64S (a_ : List Int) (k_ : Int) : M (Int × (List Int)) :=
  M.bind (M.forI 0 (a_.length : Int) (fun s => s) (fun i1 => (fun (s1 : (List Int) × Int) => M.bind (M.idx s1.1 i1) (fun x2 => M.bind (M.upd s1.1 i1 s1.2) (fun l1 => M.ret (.inl (l1, (w64 (s1.2 + 1)))))))) (a_, k_)) (fun x1 => M.ret (x1.2, x1.1))

def spec_l02Vector (x_ : List Int) : M Bool :=
  M.bind (spec_l01In (x_.length : Int) 1 10) (fun x1 => M.bind (M.ite x1 (M.bind (spec_l01All x_ false) (fun x3 => M.ret x3)) (M.ret false)) (fun x2 => M.ret x2))

def spec_l01Times (a_ : Int) (b : Int) : M Int :=
  M.ite ((a_ == (-1000000000000000)) || (b == (-1000000000000000))) (M.ret (-1000000000000000)) (M.ret (w64 (a_ + b)))

def impl_checkedVector (x_ : List Int) : M ((List Int) × Int) :=
  M.bind (impl_areValues x_) (fun x1 => M.ite (!x1) (M.ret (([] : List Int), 3)) (M.ret (x_, 0)))

def laws_szInt64S (a_ : List Int) (left : Int) : M Int :=
  M.ite (decide ((w64 (left - (a_.length : Int))) < 0)) (M.ret (-1)) (M.ret (w64 (left - (a_.length : Int))))

def laws_szInt64SS (a_ : List (List Int)) (left : Int) : M Int :=
  M.ite (decide ((w64 (left - (a_.length : Int))) < 0)) (M.ret (-1)) (M.bind (M.forI 0 (a_.length : Int) (fun s => .inl s) (fun i1 => (fun (s1 : Int) => M.bind (M.idx a_ i1) (fun x2 => M.bind (laws_szInt64S x2 s1) (fun x3 => M.ite (decide (x3 < 0)) (M.ret (.inr (.inr (-1)))) (M.ret (.inl x3)))))) (w64 (left - (a_.length : Int)))) (fun x1 => M.cont x1 (fun s2 => M.ret s2) (fun r => M.ret r)))

def laws_toInt64SS (a_ : List (List Int)) : M ((List (List Int))) :=
  M.bind (M.make (a_.length : Int) []) (fun l1 => M.bind (M.forI 0 (a_.length : Int) (fun s => s) (fun i1 => (fun (s1 : (List (List Int))) => M.bind (M.idx a_ i1) (fun x2 => M.bind (laws_toInt64S x2) (fun x3 => M.bind (M.idx s1 i1) (fun x4 => M.bind (M.upd s1 i1 x3) (fun l2 => M.ret (.inl l2))))))) l1) (fun x1 => M.ret x1))

def spec_IsMatrix (a_ : List (List Int)) : M Bool :=
  M.ite ((decide ((a_.length : Int) < 1)) || (decide (10 < (a_.length : Int)))) (M.ret false) (M.bind (M.forI 0 (a_.length : Int) (fun s => .inl s) (fun i1 => (fun (_ : Unit) => M.bind (M.idx a_ i1) (fun x3 => M.bind (spec_l02Vector x3) (fun x4 => M.bind (M.ite (!x4) (M.ret true) (M.bind (M.idx a_ i1) (fun x6 => M.bind (M.idx a_ 0) (fun x7 => M.ret ((x6.length : Int) != (x7.length : Int)))))) (fun x5 => M.ite x5 (M.ret (.inr (.inr false))) (M.ret (.inl ()))))))) ()) (fun x2 => M.cont x2 (fun _ => M.ret true) (fun r => M.ret r)))

def spec_l02Square (a_ : List (List Int)) : M Bool :=
  M.bind (spec_IsMatrix a_) (fun x1 => M.bind (M.ite x1 (M.bind (M.idx a_ 0) (fun x3 => M.ret ((a_.length : Int) == (x3.length : Int)))) (M.ret false)) (fun x2 => M.ret x2))

def impl_IsMatrix_1 (row : List Int) (z0 : List (List Int)) : M Bool :=
  M.bind (M.idx z0 0) (fun x1 => M.bind (M.ite ((row.length : Int) != (x1.length : Int)) (M.ret true) (M.bind (impl_areValues row) (fun x3 => M.ret (!x3)))) (fun x2 => M.ret x2))

def slices_IndexFunc_row_F_impl_IsMatrix_1 (s_ : List (List Int)) (f0 : List (List Int)) : M Int :=
  M.bind (M.forI 0 (s_.length : Int) (fun s => .inl s) (fun i1 => (fun (_ : Unit) => M.bind (M.idx s_ i1) (fun x2 => M.bind (impl_IsMatrix_1 x2 f0) (fun x3 => M.ite x3 (M.ret (.inr (.inr i1))) (M.ret (.inl ())))))) ()) (fun x1 => M.cont x1 (fun _ => M.ret (-1)) (fun r => M.ret r))

def slices_ContainsFunc_row_F_impl_IsMatrix_1 (s_ : List (List Int)) (f0 : List (List Int)) : M Bool :=
  M.bind (slices_IndexFunc_row_F_impl_IsMatrix_1 s_ f0) (fun x1 => M.ret (decide (0 ≤ x1)))

def impl_IsMatrix (a_ : List (List Int)) : M Bool :=
  M.bind (impl_within (a_.length : Int) 1 10) (fun x1 => M.bind (M.ite (!x1) (M.ret true) (M.bind (M.idx a_ 0) (fun x3 => M.bind (impl_within (x3.length : Int) 1 10) (fun x4 => M.ret (!x4))))) (fun x2 => M.ite x2 (M.ret false) (M.bind (slices_ContainsFunc_row_F_impl_IsMatrix_1 a_ a_) (fun x5 => M.ret (!x5)))))

def impl_isSquare (a_ : List (List Int)) : M Bool :=
  M.bind (impl_IsMatrix a_) (fun x1 => M.bind (M.ite x1 (M.bind (M.idx a_ 0) (fun x3 => M.ret ((a_.length : Int) == (x3.length : Int)))) (M.ret false)) (fun x2 => M.ret x2))

def laws_eqInt64SS (a_ : List (List Int)) (b : List (List Int)) : M Bool :=
  M.ite ((a_.length : Int) != (b.length : Int)) (M.ret false) (M.bind (M.forI 0 (a_.length : Int) (fun s => .inl s) (fun i1 => (fun (_ : Unit) => M.bind (M.idx a_ i1) (fun x2 => M.bind (M.idx b i1) (fun x3 => M.bind (laws_eqInt64S x2 x3) (fun x4 => M.ite (!x4) (M.ret (.inr (.inr false))) (M.ret (.inl ()))))))) ()) (fun x1 => M.cont x1 (fun _ => M.ret true) (fun r => M.ret r)))

def spec_l02Bottom (m_ : Int) (n_ : Int) : M ((List (List Int))) :=
  M.bind (M.forI 0 m_ (fun s => s) (fun _ => (fun (s1 : (List (List Int))) => M.bind (M.forI 0 n_ (fun s => s) (fun _ => (fun (s2 : (List Int)) => M.bind (M.app s2 ([(-1000000000000000)] : List Int)) (fun l1 => M.ret (.inl l1)))) ([] : List Int)) (fun x2 => M.bind (M.app s1 [x2]) (fun l2 => M.ret (.inl l2))))) ([] : List (List Int))) (fun x1 => M.ret x1)

def laws_markInt64SS (a_ : List (List Int)) (k_ : Int) : M (Int × (List (List Int))) :=
  M.bind (M.forI 0 (a_.length : Int) (fun s => s) (fun i1 => (fun (s1 : (List (List Int)) × Int) => M.bind (M.idx s1.1 i1) (fun x2 => M.bind (laws_markInt64S x2 s1.2) (fun x3 => M.ret (.inl ((s1.1.set i1.toNat x3.2), x3.1)))))) (a_, k_)) (fun x1 => M.ret (x1.2, x1.1))

def laws_heldInt64SS (a_ : List (List Int)) (k_ : Int) : M Int :=
  M.bind (M.forI 0 (a_.length : Int) (fun s => .inl s) (fun i1 => (fun (s1 : Int) => M.bind (M.idx a_ i1) (fun x2 => M.bind (laws_heldInt64S x2 s1) (fun x3 => M.ite (decide (x3 < 0)) (M.ret (.inr (.inr (-1)))) (M.ret (.inl x3)))))) k_) (fun x1 => M.cont x1 (fun s2 => M.ret s2) (fun r => M.ret r))

def spec_l10Best (a_ : List (List Int)) : M ((List Int) × (List Int)) :=
  M.bind (M.loop (fun (s1 : (List Int) × (List Int) × Int) => M.bind (M.guard (decide (0 ≤ (IntKind.u64.wrap ((a_.length : Int)))))) (fun _ => M.ite (decide (s1.2.2 < (ishl .i64 1 (IntKind.u64.wrap ((a_.length : Int)))))) (M.bind (M.forI 0 (a_.length : Int) (fun s => s) (fun i1 => (fun (s2 : Int) => M.bind (M.guard (decide (0 ≤ (IntKind.u64.wrap (i1))))) (fun _ => M.ret (.inl (w64 (s2 + (ibit .and .i64 (ishr .i64 s1.2.2 (IntKind.u64.wrap (i1))) 1))))))) 0) (fun x2 => M.bind (M.forI 0 (a_.length : Int) (fun s => s) (fun i2 => (fun (s3 : Int × Int) => M.bind (M.bind (M.guard (decide (0 ≤ (IntKind.u64.wrap (i2))))) (fun _ => M.ite ((ibit .and .i64 (ishr .i64 s1.2.2 (IntKind.u64.wrap (i2))) 1) == 0) (M.ret (s3.1, s3.2)) (M.bind (M.guard (decide (0 ≤ (IntKind.u64.wrap (i2))))) (fun _ => M.bind (M.idx a_ (w64 ((a_.length : Int) - x2))) (fun x4 => M.bind (M.idx x4 i2) (fun x5 => M.bind (M.idx s1.1 (w64 (s1.2.2 - (ishl .i64 1 (IntKind.u64.wrap (i2)))))) (fun x6 => M.bind (spec_l01Times x5 x6) (fun x7 => M.ite (x7 == (-1000000000000000)) (M.ret (s3.1, s3.2)) (M.bind (M.ite (decide (s3.1 < x7)) (M.bind (M.idx s1.2.1 (w64 (s1.2.2 - (ishl .i64 1 (IntKind.u64.wrap (i2)))))) (fun x8 => M.ret (x7, x8))) (M.ite (x7 == s3.1) (M.bind (M.idx s1.2.1 (w64 (s1.2.2 - (ishl .i64 1 (IntKind.u64.wrap (i2)))))) (fun x9 => M.ret (s3.1, (w64 (s3.2 + x9))))) (M.ret (s3.1, s3.2)))) (fun (s5 : Int × Int) => M.ret (s5.1, s5.2))))))))))) (fun (s4 : Int × Int) => M.ret (.inl (s4.1, s4.2))))) ((-1000000000000000), 0)) (fun x3 => M.bind (M.app s1.1 ([x3.1] : List Int)) (fun l1 => M.bind (M.app s1.2.1 ([x3.2] : List Int)) (fun l2 => M.ret (.inl (l1, l2, (w64 (s1.2.2 + 1))))))))) (M.ret (.inr (s1.1, s1.2.1, s1.2.2))))) (([0] : List Int), ([1] : List Int), 1)) (fun x1 => M.ret (x1.1, x1.2.1))

def math_bits_OnesCount64 (x_ : Int) : M Int :=
  M.bind (M.guard (decide (0 ≤ 1))) (fun _ => M.bind (M.guard (decide (0 ≤ 2))) (fun _ => M.bind (M.guard (decide (0 ≤ 4))) (fun _ => M.bind (M.guard (decide (0 ≤ 8))) (fun _ => M.bind (M.guard (decide (0 ≤ 16))) (fun _ => M.bind (M.guard (decide (0 ≤ 32))) (fun _ => M.ret (ibit .and .i64 (w64 (IntKind.u64.wrap ((IntKind.u64.wrap ((IntKind.u64.wrap ((ibit .and .u64 (IntKind.u64.wrap ((ishr .u64 (IntKind.u64.wrap ((ibit .and .u64 (ishr .u64 (IntKind.u64.wrap ((ibit .and .u64 (ishr .u64 x_ 1) 6148914691236517205) + (ibit .and .u64 x_ 6148914691236517205))) 2) 3689348814741910323) + (ibit .and .u64 (IntKind.u64.wrap ((ibit .and .u64 (ishr .u64 x_ 1) 6148914691236517205) + (ibit .and .u64 x_ 6148914691236517205))) 3689348814741910323))) 4) + (IntKind.u64.wrap ((ibit .and .u64 (ishr .u64 (IntKind.u64.wrap ((ibit .and .u64 (ishr .u64 x_ 1) 6148914691236517205) + (ibit .and .u64 x_ 6148914691236517205))) 2) 3689348814741910323) + (ibit .and .u64 (IntKind.u64.wrap ((ibit .and .u64 (ishr .u64 x_ 1) 6148914691236517205) + (ibit .and .u64 x_ 6148914691236517205))) 3689348814741910323))))) 1085102592571150095) + (ishr .u64 (ibit .and .u64 (IntKind.u64.wrap ((ishr .u64 (IntKind.u64.wrap ((ibit .and .u64 (ishr .u64 (IntKind.u64.wrap ((ibit .and .u64 (ishr .u64 x_ 1) 6148914691236517205) + (ibit .and .u64 x_ 6148914691236517205))) 2) 3689348814741910323) + (ibit .and .u64 (IntKind.u64.wrap ((ibit .and .u64 (ishr .u64 x_ 1) 6148914691236517205) + (ibit .and .u64 x_ 6148914691236517205))) 3689348814741910323))) 4) + (IntKind.u64.wrap ((ibit .and .u64 (ishr .u64 (IntKind.u64.wrap ((ibit .and .u64 (ishr .u64 x_ 1) 6148914691236517205) + (ibit .and .u64 x_ 6148914691236517205))) 2) 3689348814741910323) + (ibit .and .u64 (IntKind.u64.wrap ((ibit .and .u64 (ishr .u64 x_ 1) 6148914691236517205) + (ibit .and .u64 x_ 6148914691236517205))) 3689348814741910323))))) 1085102592571150095) 8))) + (ishr .u64 (IntKind.u64.wrap ((ibit .and .u64 (IntKind.u64.wrap ((ishr .u64 (IntKind.u64.wrap ((ibit .and .u64 (ishr .u64 (IntKind.u64.wrap ((ibit .and .u64 (ishr .u64 x_ 1) 6148914691236517205) + (ibit .and .u64 x_ 6148914691236517205))) 2) 3689348814741910323) + (ibit .and .u64 (IntKind.u64.wrap ((ibit .and .u64 (ishr .u64 x_ 1) 6148914691236517205) + (ibit .and .u64 x_ 6148914691236517205))) 3689348814741910323))) 4) + (IntKind.u64.wrap ((ibit .and .u64 (ishr .u64 (IntKind.u64.wrap ((ibit .and .u64 (ishr .u64 x_ 1) 6148914691236517205) + (ibit .and .u64 x_ 6148914691236517205))) 2) 3689348814741910323) + (ibit .and .u64 (IntKind.u64.wrap ((ibit .and .u64 (ishr .u64 x_ 1) 6148914691236517205) + (ibit .and .u64 x_ 6148914691236517205))) 3689348814741910323))))) 1085102592571150095) + (ishr .u64 (ibit .and .u64 (IntKind.u64.wrap ((ishr .u64 (IntKind.u64.wrap ((ibit .and .u64 (ishr .u64 (IntKind.u64.wrap ((ibit .and .u64 (ishr .u64 x_ 1) 6148914691236517205) + (ibit .and .u64 x_ 6148914691236517205))) 2) 3689348814741910323) + (ibit .and .u64 (IntKind.u64.wrap ((ibit .and .u64 (ishr .u64 x_ 1) 6148914691236517205) + (ibit .and .u64 x_ 6148914691236517205))) 3689348814741910323))) 4) + (IntKind.u64.wrap ((ibit .and .u64 (ishr .u64 (IntKind.u64.wrap ((ibit .and .u64 (ishr .u64 x_ 1) 6148914691236517205) + (ibit .and .u64 x_ 6148914691236517205))) 2) 3689348814741910323) + (ibit .and .u64 (IntKind.u64.wrap ((ibit .and .u64 (ishr .u64 x_ 1) 6148914691236517205) + (ibit .and .u64 x_ 6148914691236517205))) 3689348814741910323))))) 1085102592571150095) 8))) 16))) + (ishr .u64 (IntKind.u64.wrap ((IntKind.u64.wrap ((ibit .and .u64 (IntKind.u64.wrap ((ishr .u64 (IntKind.u64.wrap ((ibit .and .u64 (ishr .u64 (IntKind.u64.wrap ((ibit .and .u64 (ishr .u64 x_ 1) 6148914691236517205) + (ibit .and .u64 x_ 6148914691236517205))) 2) 3689348814741910323) + (ibit .and .u64 (IntKind.u64.wrap ((ibit .and .u64 (ishr .u64 x_ 1) 6148914691236517205) + (ibit .and .u64 x_ 6148914691236517205))) 3689348814741910323))) 4) + (IntKind.u64.wrap ((ibit .and .u64 (ishr .u64 (IntKind.u64.wrap ((ibit .and .u64 (ishr .u64 x_ 1) 6148914691236517205) + (ibit .and .u64 x_ 6148914691236517205))) 2) 3689348814741910323) + (ibit .and .u64 (IntKind.u64.wrap ((ibit .and .u64 (ishr .u64 x_ 1) 6148914691236517205) + (ibit .and .u64 x_ 6148914691236517205))) 3689348814741910323))))) 1085102592571150095) + (ishr .u64 (ibit .and .u64 (IntKind.u64.wrap ((ishr .u64 (IntKind.u64.wrap ((ibit .and .u64 (ishr .u64 (IntKind.u64.wrap ((ibit .and .u64 (ishr .u64 x_ 1) 6148914691236517205) + (ibit .and .u64 x_ 6148914691236517205))) 2) 3689348814741910323) + (ibit .and .u64 (IntKind.u64.wrap ((ibit .and .u64 (ishr .u64 x_ 1) 6148914691236517205) + (ibit .and .u64 x_ 6148914691236517205))) 3689348814741910323))) 4) + (IntKind.u64.wrap ((ibit .and .u64 (ishr .u64 (IntKind.u64.wrap ((ibit .and .u64 (ishr .u64 x_ 1) 6148914691236517205) + (ibit .and .u64 x_ 6148914691236517205))) 2) 3689348814741910323) + (ibit .and .u64 (IntKind.u64.wrap ((ibit .and .u64 (ishr .u64 x_ 1) 6148914691236517205) + (ibit .and .u64 x_ 6148914691236517205))) 3689348814741910323))))) 1085102592571150095) 8))) + (ishr .u64 (IntKind.u64.wrap ((ibit .and .u64 (IntKind.u64.wrap ((ishr .u64 (IntKind.u64.wrap ((ibit .and .u64 (ishr .u64 (IntKind.u64.wrap ((ibit .and .u64 (ishr .u64 x_ 1) 6148914691236517205) + (ibit .and .u64 x_ 6148914691236517205))) 2) 3689348814741910323) + (ibit .and .u64 (IntKind.u64.wrap ((ibit .and .u64 (ishr .u64 x_ 1) 6148914691236517205) + (ibit .and .u64 x_ 6148914691236517205))) 3689348814741910323))) 4) + (IntKind.u64.wrap ((ibit .and .u64 (ishr .u64 (IntKind.u64.wrap ((ibit .and .u64 (ishr .u64 x_ 1) 6148914691236517205) + (ibit .and .u64 x_ 6148914691236517205))) 2) 3689348814741910323) + (ibit .and .u64 (IntKind.u64.wrap ((ibit .and .u64 (ishr .u64 x_ 1) 6148914691236517205) + (ibit .and .u64 x_ 6148914691236517205))) 3689348814741910323))))) 1085102592571150095) + (ishr .u64 (ibit .and .u64 (IntKind.u64.wrap ((ishr .u64 (IntKind.u64.wrap ((ibit .and .u64 (ishr .u64 (IntKind.u64.wrap ((ibit .and .u64 (ishr .u64 x_ 1) 6148914691236517205) + (ibit .and .u64 x_ 6148914691236517205))) 2) 3689348814741910323) + (ibit .and .u64 (IntKind.u64.wrap ((ibit .and .u64 (ishr .u64 x_ 1) 6148914691236517205) + (ibit .and .u64 x_ 6148914691236517205))) 3689348814741910323))) 4) + (IntKind.u64.wrap ((ibit .and .u64 (ishr .u64 (IntKind.u64.wrap ((ibit .and .u64 (ishr .u64 x_ 1) 6148914691236517205) + (ibit .and .u64 x_ 6148914691236517205))) 2) 3689348814741910323) + (ibit .and .u64 (IntKind.u64.wrap ((ibit .and .u64 (ishr .u64 x_ 1) 6148914691236517205) + (ibit .and .u64 x_ 6148914691236517205))) 3689348814741910323))))) 1085102592571150095) 8))) 16))) 32)))) 127)))))))

def math_bits_OnesCount (x_ : Int) : M Int :=
  M.bind (math_bits_OnesCount64 x_) (fun x1 => M.ret x1)

def impl_permanents (a_ : List (List Int)) : M ((List TPermanent)) :=
  M.bind (M.guard (decide (0 ≤ (a_.length : Int)))) (fun _ => M.bind (M.make (ishl .i64 1 (a_.length : Int)) (⟨0, 0⟩ : TPermanent)) (fun l1 => M.bind (M.guard (decide (0 ≤ (a_.length : Int)))) (fun _ => M.bind (M.loop (fun (s1 : (List TPermanent) × Int) => M.ite (decide (0 ≤ s1.2)) (M.bind (M.ite (s1.2 == (w64 ((ishl .i64 1 (a_.length : Int)) - 1))) (M.bind (M.idx s1.1 s1.2) (fun x2 => M.bind (M.upd s1.1 s1.2 (⟨0, 1⟩ : TPermanent)) (fun l2 => M.ret l2))) (M.bind (math_bits_OnesCount (IntKind.u64.wrap (s1.2))) (fun x3 => M.bind (M.idx a_ x3) (fun x4 => M.bind (M.forI 0 (x4.length : Int) (fun s => s) (fun i1 => (fun (s3 : TPermanent) => M.bind (M.bind (M.idx x4 i1) (fun x6 => M.bind (M.guard (decide (0 ≤ i1))) (fun _ => M.bind (M.idx s1.1 (ibit .or .i64 s1.2 (ishl .i64 1 i1))) (fun x7 => M.bind (M.guard (decide (0 ≤ i1))) (fun _ => M.ite ((((ibit .and .i64 (ishr .i64 s1.2 i1) 1) == 1) || (x6 == (-1000000000000000))) || (x7.weight == (-1000000000000000))) (M.ret s3) (M.bind (M.ite ((s3.count == 0) || (decide (s3.weight < (w64 (x6 + x7.weight))))) (M.ret (⟨(w64 (x6 + x7.weight)), x7.count⟩ : TPermanent)) (M.ite ((w64 (x6 + x7.weight)) == s3.weight) (M.ret (⟨s3.weight, (w64 (s3.count + x7.count))⟩ : TPermanent)) (M.ret s3))) (fun (s5 : TPermanent) => M.ret s5))))))) (fun (s4 : TPermanent) => M.ret (.inl s4)))) (⟨(-1000000000000000), 0⟩ : TPermanent)) (fun x5 => M.bind (M.idx s1.1 s1.2) (fun x11 => M.bind (M.upd s1.1 s1.2 (x5 : TPermanent)) (fun l3 => M.ret l3))))))) (fun (s2 : (List TPermanent)) => M.ret (.inl (s2, (w64 (s1.2 - 1)))))) (M.ret (.inr (s1.1, s1.2)))) (l1, (w64 ((ishl .i64 1 (a_.length : Int)) - 1)))) (fun x1 => M.ret x1.1))))

def spec_l10Top (a_ : List (List Int)) : M Int :=
  M.bind (spec_l10Best a_) (fun x1 => M.bind (M.idx x1.1 (w64 ((x1.1.length : Int) - 1))) (fun x2 => M.ret x2))

def spec_l10Part (a_ : List (List Int)) (nodes : List Int) : M Int :=
  M.ite ((nodes.length : Int) == 0) (M.ret 0) (M.bind (spec_l02Bottom (nodes.length : Int) (nodes.length : Int)) (fun x1 => M.bind (M.forI 0 (nodes.length : Int) (fun s => s) (fun i1 => (fun (s1 : (List (List Int))) => M.bind (M.forI 0 (nodes.length : Int) (fun s => s) (fun i2 => (fun (s2 : (List (List Int))) => M.bind (M.idx s2 i1) (fun x4 => M.bind (M.idx nodes i1) (fun x5 => M.bind (M.idx a_ x5) (fun x6 => M.bind (M.idx nodes i2) (fun x7 => M.bind (M.idx x6 x7) (fun x8 => M.bind (M.idx x4 i2) (fun x9 => M.bind (M.upd x4 i2 x8) (fun l1 => M.ret (.inl (s2.set i1.toNat l1))))))))))) s1) (fun x3 => M.ret (.inl x3)))) x1) (fun x2 => M.bind (spec_l10Top x2) (fun x10 => M.ret x10))))

def impl_principal_1 (i : Int) (j : Int) (z0 : List (List Int)) (z1 : List Int) : M Int :=
  M.bind (M.idx z1 i) (fun x1 => M.bind (M.idx z0 x1) (fun x2 => M.bind (M.idx z1 j) (fun x3 => M.bind (M.idx x2 x3) (fun x4 => M.ret x4))))

def impl_matrixBy_F_impl_principal_1 (m_ : Int) (n_ : Int) (entry0 : List (List Int)) (entry1 : List Int) : M ((List (List Int))) :=
  M.bind (M.make m_ []) (fun l1 => M.bind (M.forI 0 (l1.length : Int) (fun s => s) (fun i1 => (fun (s1 : (List (List Int))) => M.bind (M.make n_ 0) (fun l2 => M.bind (M.idx s1 i1) (fun x2 => M.bind (M.upd s1 i1 l2) (fun l3 => M.bind (M.idx l3 i1) (fun x3 => M.bind (M.forI 0 (x3.length : Int) (fun s => s) (fun i2 => (fun (s2 : (List (List Int))) => M.bind (M.idx s2 i1) (fun x5 => M.bind (impl_principal_1 i1 i2 entry0 entry1) (fun x6 => M.bind (M.idx x5 i2) (fun x7 => M.bind (M.upd x5 i2 x6) (fun l4 => M.ret (.inl (s2.set i1.toNat l4)))))))) l3) (fun x4 => M.ret (.inl x4)))))))) l1) (fun x1 => M.ret x1))

def impl_principal (a_ : List (List Int)) (nodes : List Int) : M Int :=
  M.ite ((nodes.length : Int) == 0) (M.ret 0) (M.bind (impl_matrixBy_F_impl_principal_1 (nodes.length : Int) (nodes.length : Int) a_ nodes) (fun x1 => M.bind (impl_permanents x1) (fun x2 => M.bind (M.idx x2 0) (fun x3 => M.ret x3.weight))))

def spec_CharPolynomial (a_ : List (List Int)) : M ((List Int) × Int) :=
  M.bind (spec_l02Square a_) (fun x1 => M.ite (!x1) (M.ret (([] : List Int), 1)) (M.bind (spec_l02Bottom 1 (w64 ((a_.length : Int) + 1))) (fun x2 => M.bind (M.idx x2 0) (fun x3 => M.bind (M.loop (fun (s1 : (List Int) × Int) => M.bind (M.guard (decide (0 ≤ (IntKind.u64.wrap ((a_.length : Int)))))) (fun _ => M.ite (decide (s1.2 < (ishl .i64 1 (IntKind.u64.wrap ((a_.length : Int)))))) (M.bind (M.forI 0 (a_.length : Int) (fun s => s) (fun i1 => (fun (s2 : (List Int)) => M.bind (M.guard (decide (0 ≤ (IntKind.u64.wrap (i1))))) (fun _ => M.bind (M.ite ((ibit .and .i64 (ishr .i64 s1.2 (IntKind.u64.wrap (i1))) 1) == 1) (M.bind (M.app s2 ([i1] : List Int)) (fun l1 => M.ret l1)) (M.ret s2)) (fun (s3 : (List Int)) => M.ret (.inl s3))))) ([] : List Int)) (fun x5 => M.bind (M.idx s1.1 (w64 ((a_.length : Int) - (x5.length : Int)))) (fun x6 => M.bind (spec_l10Part a_ x5) (fun x7 => M.bind (M.idx s1.1 (w64 ((a_.length : Int) - (x5.length : Int)))) (fun x8 => M.bind (M.upd s1.1 (w64 ((a_.length : Int) - (x5.length : Int))) (mx x6 x7)) (fun l2 => M.ret (.inl (l2, (w64 (s1.2 + 1)))))))))) (M.ret (.inr (s1.1, s1.2))))) (x3, 0)) (fun x4 => M.bind (spec_IsPolynomial x4.1) (fun x9 => M.ite (!x9) (M.ret (([] : List Int), 3)) (M.ret (x4.1, 0))))))))

def impl_CharPolynomial (a_ : List (List Int)) : M ((List Int) × Int) :=
  M.bind (impl_isSquare a_) (fun x1 => M.ite (!x1) (M.ret (([] : List Int), 1)) (M.bind (M.make (w64 ((a_.length : Int) + 1)) 0) (fun l1 => M.bind (M.forI 0 (a_.length : Int) (fun s => s) (fun i1 => (fun (s1 : (List Int)) => M.bind (M.idx s1 i1) (fun x3 => M.bind (M.upd s1 i1 (-1000000000000000)) (fun l2 => M.ret (.inl l2))))) l1) (fun x2 => M.bind (M.loop (fun (s2 : (List Int) × Int) => M.bind (M.guard (decide (0 ≤ (a_.length : Int)))) (fun _ => M.ite (decide (s2.2 < (ishl .i64 1 (a_.length : Int)))) (M.bind (M.forI 0 (a_.length : Int) (fun s => s) (fun i2 => (fun (s3 : (List Int)) => M.bind (M.guard (decide (0 ≤ i2))) (fun _ => M.bind (M.ite ((ibit .and .i64 (ishr .i64 s2.2 i2) 1) == 1) (M.bind (M.app s3 ([i2] : List Int)) (fun l3 => M.ret l3)) (M.ret s3)) (fun (s4 : (List Int)) => M.ret (.inl s4))))) []) (fun x5 => M.bind (M.idx s2.1 (w64 ((a_.length : Int) - (x5.length : Int)))) (fun x6 => M.bind (impl_principal a_ x5) (fun x7 => M.bind (M.idx s2.1 (w64 ((a_.length : Int) - (x5.length : Int)))) (fun x8 => M.bind (M.upd s2.1 (w64 ((a_.length : Int) - (x5.length : Int))) (mx x6 x7)) (fun l4 => M.ret (.inl (l4, (w64 (s2.2 + 1)))))))))) (M.ret (.inr (s2.1, s2.2))))) (x2, 1)) (fun x4 => M.bind (impl_checkedVector x4.1) (fun x9 => M.ret (x9.1, x9.2)))))))

def laws_FnExactCharPolynomial (aA : List (List Int)) : M Bool :=
  M.bind (laws_szInt64SS aA 1048576) (fun x1 => M.ite (decide (x1 < 0)) (M.ret true) (M.bind (laws_toInt64SS aA) (fun x2 => M.bind (spec_CharPolynomial x2) (fun x3 => M.bind (laws_toInt64SS aA) (fun x4 => M.bind (impl_CharPolynomial x4) (fun x5 => M.bind (laws_eqInt64S x5.1 x3.1) (fun x6 => M.ite ((!x6) || (x5.2 != x3.2)) (M.ret false) (M.bind (laws_toInt64SS aA) (fun x8 => M.bind (laws_eqInt64SS x4 x8) (fun x9 => M.ite (!x9) (M.ret false) (M.bind (laws_markInt64SS x4 1) (fun x10 => M.bind (M.ite (decide (x10.1 < 0)) (M.ret true) (M.bind (laws_eqInt64S x5.1 x3.1) (fun x12 => M.ret (!x12)))) (fun x11 => M.ite (x11 || (x5.2 != x3.2)) (M.ret false) (M.bind (laws_markInt64S x5.1 1) (fun x14 => M.bind (laws_heldInt64S x14.2 1) (fun x15 => M.ite (decide (x15 < 0)) (M.ret false) (M.ite (x15 != x14.1) (M.ret false) (M.bind (laws_toInt64SS aA) (fun x16 => M.bind (impl_CharPolynomial x16) (fun x17 => M.bind (laws_eqInt64S x17.1 x3.1) (fun x18 => M.ite ((!x18) || (x17.2 != x3.2)) (M.ret false) (M.bind (laws_heldInt64S x14.2 1) (fun x20 => M.ite (decide (x20 < 0)) (M.ret false) (M.ite (x20 != x14.1) (M.ret false) (M.ret true)))))))))))))))))))))))))

end Go.Proofs.Ytfhndofgglohoaa
