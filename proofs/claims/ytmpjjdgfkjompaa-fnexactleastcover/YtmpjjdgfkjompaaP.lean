/-
  Plain programs: what each Go function that the law reaches computes, on lists and integers.
  Conditions: None beyond the given statement.
-/
import Derived.Test.YtmpjjdgfkjompaaM
namespace Go.Proofs.Ytmpjjdgfkjompaa
open Go
structure TRatio where
  Num : Int
  Den : Int
structure TCorner where
  At : TRatio
  Times : Int
structure TBoundserror where
  x : Int
  y : Int
  signed : Bool
  code : Int
structure TErroraddressstring where
  msg : ByteArray
  addr : Int
def laws_toInt64S (a_ : List Int) : M ((List Int)) :=
  M.bind (M.make (a_.length : Int) 0) (fun l1 => M.bind (M.forI 0 (a_.length : Int) (fun s => s) (fun i1 => (fun (s1 : (List Int)) => M.bind (M.idx a_ i1) (fun x2 => M.bind (M.idx s1 i1) (fun x3 => M.bind (M.upd s1 i1 x2) (fun l2 => M.ret (.inl l2)))))) l1) (fun x1 => M.ret x1))

def spec_l01In (n_ : Int) (low : Int) (high : Int) : M Bool :=
  M.ret ((decide (low ≤ n_)) && (decide (n_ ≤ high)))

def spec_l01Finite (a_ : Int) : M Bool :=
  M.bind (spec_l01In a_ (-1000000) 1000000) (fun x1 => M.ret x1)

def spec_IsValue (a_ : Int) : M Bool :=
  M.bind (M.ite (a_ == (-1000000000000000)) (M.ret true) (M.bind (spec_l01Finite a_) (fun x2 => M.ret x2))) (fun x1 => M.ret x1)

def spec_l01All (list : List Int) (finite : Bool) : M Bool :=
  M.bind (M.forI 0 (list.length : Int) (fun s => .inl s) (fun i1 => (fun (_ : Unit) => M.bind (M.idx list i1) (fun x2 => M.bind (spec_IsValue x2) (fun x3 => M.bind (M.ite (!x3) (M.ret true) (M.bind (M.ite finite (M.bind (M.idx list i1) (fun x6 => M.ret (x6 == (-1000000000000000)))) (M.ret false)) (fun x5 => M.ret x5))) (fun x4 => M.ite x4 (M.ret (.inr (.inr false))) (M.ret (.inl ()))))))) ()) (fun x1 => M.cont x1 (fun _ => M.ret true) (fun r => M.ret r))

def impl_within (n_ : Int) (low : Int) (high : Int) : M Bool :=
  M.ret ((decide (low ≤ n_)) && (decide (n_ ≤ high)))

def impl_isFinite (n_ : Int) : M Bool :=
  M.bind (impl_within n_ (-1000000) 1000000) (fun x1 => M.ret x1)

def impl_IsValue (a_ : Int) : M Bool :=
  M.bind (M.ite (a_ == (-1000000000000000)) (M.ret true) (M.bind (impl_isFinite a_) (fun x2 => M.ret x2))) (fun x1 => M.ret x1)

def impl_areValues_1 (n_ : Int) : M Bool :=
  M.bind (impl_IsValue n_) (fun x1 => M.ret (!x1))

def slices_IndexFunc_int_F_impl_areValues_1 (s_ : List Int) : M Int :=
  M.bind (M.forI 0 (s_.length : Int) (fun s => .inl s) (fun i1 => (fun (_ : Unit) => M.bind (M.idx s_ i1) (fun x2 => M.bind (impl_areValues_1 x2) (fun x3 => M.ite x3 (M.ret (.inr (.inr i1))) (M.ret (.inl ())))))) ()) (fun x1 => M.cont x1 (fun _ => M.ret (-1)) (fun r => M.ret r))

def slices_ContainsFunc_int_F_impl_areValues_1 (s_ : List Int) : M Bool :=
  M.bind (slices_IndexFunc_int_F_impl_areValues_1 s_) (fun x1 => M.ret (decide (0 ≤ x1)))

def impl_areValues (list : List Int) : M Bool :=
  M.bind (slices_ContainsFunc_int_F_impl_areValues_1 list) (fun x1 => M.ret (!x1))

def laws_eqInt64S (a_ : List Int) (b : List Int) : M Bool :=
  M.ite ((a_.length : Int) != (b.length : Int)) (M.ret false) (M.bind (M.forI 0 (a_.length : Int) (fun s => .inl s) (fun i1 => (fun (_ : Unit) => M.bind (M.idx a_ i1) (fun x2 => M.bind (M.idx b i1) (fun x3 => M.ite (x2 != x3) (M.ret (.inr (.inr false))) (M.ret (.inl ())))))) ()) (fun x1 => M.cont x1 (fun _ => M.ret true) (fun r => M.ret r)))

def laws_heldInt64S (a_ : List Int) (k_ : Int) : M Int :=
  M.bind (M.forI 0 (a_.length : Int) (fun s => .inl s) (fun i1 => (fun (s1 : Int) => M.bind (M.idx a_ i1) (fun x2 => M.ite (x2 != s1) (M.ret (.inr (.inr (-1)))) (M.ret (.inl (w64 (s1 + 1))))))) k_) (fun x1 => M.cont x1 (fun s2 => M.ret s2) (fun r => M.ret r))

def laws_markInt64S (a_ : List Int) (k_ : Int) : M (Int × (List Int)) :=
  M.bind (M.forI 0 (a_.length : Int) (fun s => s) (fun i1 => (fun (s1 : (List Int) × Int) => M.bind (M.idx s1.1 i1) (fun x2 => M.bind (M.upd s1.1 i1 s1.2) (fun l1 => M.ret (.inl (l1, (w64 (s1.2 + 1)))))))) (a_, k_)) (fun x1 => M.ret (x1.2, x1.1))

def spec_l02Vector (x_ : List Int) : M Bool :=
  M.bind (spec_l01In (x_.length : Int) 1 10) (fun x1 => M.bind (M.ite x1 (M.bind (spec_l01All x_ false) (fun x3 => M.ret x3)) (M.ret false)) (fun x2 => M.ret x2))

def spec_l01Times (a_ : Int) (b : Int) : M Int :=
  M.ite ((a_ == (-1000000000000000)) || (b == (-1000000000000000))) (M.ret (-1000000000000000)) (M.ret (w64 (a_ + b)))

def impl_isVector (x_ : List Int) : M Bool :=
  M.bind (impl_within (x_.length : Int) 1 10) (fun x1 => M.bind (M.ite x1 (M.bind (impl_areValues x_) (fun x3 => M.ret x3)) (M.ret false)) (fun x2 => M.ret x2))

def impl_times (a_ : Int) (b : Int) : M Int :=
  M.ite ((a_ == (-1000000000000000)) || (b == (-1000000000000000))) (M.ret (-1000000000000000)) (M.ret (w64 (a_ + b)))

def laws_szInt64S (a_ : List Int) (left : Int) : M Int :=
  M.ite (decide ((w64 (left - (a_.length : Int))) < 0)) (M.ret (-1)) (M.ret (w64 (left - (a_.length : Int))))

def laws_szInt64SS (a_ : List (List Int)) (left : Int) : M Int :=
  M.ite (decide ((w64 (left - (a_.length : Int))) < 0)) (M.ret (-1)) (M.bind (M.forI 0 (a_.length : Int) (fun s => .inl s) (fun i1 => (fun (s1 : Int) => M.bind (M.idx a_ i1) (fun x2 => M.bind (laws_szInt64S x2 s1) (fun x3 => M.ite (decide (x3 < 0)) (M.ret (.inr (.inr (-1)))) (M.ret (.inl x3)))))) (w64 (left - (a_.length : Int)))) (fun x1 => M.cont x1 (fun s2 => M.ret s2) (fun r => M.ret r)))

def laws_toInt64SS (a_ : List (List Int)) : M ((List (List Int))) :=
  M.bind (M.make (a_.length : Int) []) (fun l1 => M.bind (M.forI 0 (a_.length : Int) (fun s => s) (fun i1 => (fun (s1 : (List (List Int))) => M.bind (M.idx a_ i1) (fun x2 => M.bind (laws_toInt64S x2) (fun x3 => M.bind (M.idx s1 i1) (fun x4 => M.bind (M.upd s1 i1 x3) (fun l2 => M.ret (.inl l2))))))) l1) (fun x1 => M.ret x1))

def spec_IsMatrix (a_ : List (List Int)) : M Bool :=
  M.ite ((decide ((a_.length : Int) < 1)) || (decide (10 < (a_.length : Int)))) (M.ret false) (M.bind (M.forI 0 (a_.length : Int) (fun s => .inl s) (fun i1 => (fun (_ : Unit) => M.bind (M.idx a_ i1) (fun x3 => M.bind (spec_l02Vector x3) (fun x4 => M.bind (M.ite (!x4) (M.ret true) (M.bind (M.idx a_ i1) (fun x6 => M.bind (M.idx a_ 0) (fun x7 => M.ret ((x6.length : Int) != (x7.length : Int)))))) (fun x5 => M.ite x5 (M.ret (.inr (.inr false))) (M.ret (.inl ()))))))) ()) (fun x2 => M.cont x2 (fun _ => M.ret true) (fun r => M.ret r)))

def impl_IsMatrix_1 (row : List Int) (z0 : List (List Int)) : M Bool :=
  M.bind (M.idx z0 0) (fun x1 => M.bind (M.ite ((row.length : Int) != (x1.length : Int)) (M.ret true) (M.bind (impl_areValues row) (fun x3 => M.ret (!x3)))) (fun x2 => M.ret x2))

def slices_IndexFunc_row_F_impl_IsMatrix_1 (s_ : List (List Int)) (f0 : List (List Int)) : M Int :=
  M.bind (M.forI 0 (s_.length : Int) (fun s => .inl s) (fun i1 => (fun (_ : Unit) => M.bind (M.idx s_ i1) (fun x2 => M.bind (impl_IsMatrix_1 x2 f0) (fun x3 => M.ite x3 (M.ret (.inr (.inr i1))) (M.ret (.inl ())))))) ()) (fun x1 => M.cont x1 (fun _ => M.ret (-1)) (fun r => M.ret r))

def slices_ContainsFunc_row_F_impl_IsMatrix_1 (s_ : List (List Int)) (f0 : List (List Int)) : M Bool :=
  M.bind (slices_IndexFunc_row_F_impl_IsMatrix_1 s_ f0) (fun x1 => M.ret (decide (0 ≤ x1)))

def impl_IsMatrix (a_ : List (List Int)) : M Bool :=
  M.bind (impl_within (a_.length : Int) 1 10) (fun x1 => M.bind (M.ite (!x1) (M.ret true) (M.bind (M.idx a_ 0) (fun x3 => M.bind (impl_within (x3.length : Int) 1 10) (fun x4 => M.ret (!x4))))) (fun x2 => M.ite x2 (M.ret false) (M.bind (slices_ContainsFunc_row_F_impl_IsMatrix_1 a_ a_) (fun x5 => M.ret (!x5)))))

def laws_eqInt64SS (a_ : List (List Int)) (b : List (List Int)) : M Bool :=
  M.ite ((a_.length : Int) != (b.length : Int)) (M.ret false) (M.bind (M.forI 0 (a_.length : Int) (fun s => .inl s) (fun i1 => (fun (_ : Unit) => M.bind (M.idx a_ i1) (fun x2 => M.bind (M.idx b i1) (fun x3 => M.bind (laws_eqInt64S x2 x3) (fun x4 => M.ite (!x4) (M.ret (.inr (.inr false))) (M.ret (.inl ()))))))) ()) (fun x1 => M.cont x1 (fun _ => M.ret true) (fun r => M.ret r)))

def spec_l01Same (a_ : List Int) (b : List Int) : M Bool :=
  M.ite ((a_.length : Int) != (b.length : Int)) (M.ret false) (M.bind (M.forI 0 (a_.length : Int) (fun s => .inl s) (fun i1 => (fun (_ : Unit) => M.bind (M.idx a_ i1) (fun x2 => M.bind (M.idx b i1) (fun x3 => M.ite (x2 != x3) (M.ret (.inr (.inr false))) (M.ret (.inl ())))))) ()) (fun x1 => M.cont x1 (fun _ => M.ret true) (fun r => M.ret r)))

def slices_Equal_int (p0 : List Int) (p1 : List Int) : M Bool :=
  M.ite ((p0.length : Int) != (p1.length : Int)) (M.ret false) (M.bind (M.forI 0 (p0.length : Int) (fun s => .inl s) (fun i1 => (fun (_ : Unit) => M.bind (M.idx p0 i1) (fun x2 => M.bind (M.idx p1 i1) (fun x3 => M.ite (x2 != x3) (M.ret (.inr (.inr false))) (M.ret (.inl ())))))) ()) (fun x1 => M.cont x1 (fun _ => M.ret true) (fun r => M.ret r)))

def spec_l01Less (a_ : List Int) (b : List Int) : M Bool :=
  M.bind (M.loop (fun (s1 : Int) => M.ite ((decide (s1 < (a_.length : Int))) && (decide (s1 < (b.length : Int)))) (M.bind (M.idx a_ s1) (fun x3 => M.bind (M.idx b s1) (fun x4 => M.ite (x3 != x4) (M.bind (M.idx a_ s1) (fun x5 => M.bind (M.idx b s1) (fun x6 => M.ret (.inr (.inr (decide (x5 < x6))))))) (M.ret (.inl (w64 (s1 + 1))))))) (M.ret (.inr (.inl s1)))) 0) (fun x1 => M.cont x1 (fun _ => M.ret (decide ((a_.length : Int) < (b.length : Int)))) (fun r => M.ret r))

def cmp_isNaN_i (x_ : Int) : M Bool :=
  M.ret (x_ != x_)

def cmp_Compare_i (x_ : Int) (y_ : Int) : M Int :=
  M.bind (cmp_isNaN_i x_) (fun x1 => M.bind (cmp_isNaN_i y_) (fun x2 => M.ite x1 (M.ite x2 (M.ret 0) (M.ret (-1))) (M.ite x2 (M.ret 1) (M.ite (decide (x_ < y_)) (M.ret (-1)) (M.ite (decide (y_ < x_)) (M.ret 1) (M.ret 0))))))

def spec_l08Fits (a_ : List (List Int)) : M Bool :=
  M.bind (M.loop (fun (s1 : Int) => M.bind (M.idx a_ 0) (fun x2 => M.ite (decide (s1 < (x2.length : Int))) (M.bind (M.forI 0 (a_.length : Int) (fun s => s) (fun i1 => (fun (s3 : Bool) => M.bind (M.ite s3 (M.ret true) (M.bind (M.idx a_ i1) (fun x5 => M.bind (M.idx x5 s1) (fun x6 => M.ret (x6 != (-1000000000000000)))))) (fun x4 => M.ret (.inl x4)))) false) (fun x3 => M.ite (!x3) (M.ret (.inr (.inr false))) (M.ret (.inl (w64 (s1 + 1)))))) (M.ret (.inr (.inl s1))))) 0) (fun x1 => M.cont x1 (fun _ => M.ret true) (fun r => M.ret r))

def spec_l08Code (a_ : List (List Int)) (b : List Int) : M Int :=
  M.bind (spec_IsMatrix a_) (fun x1 => M.bind (M.ite (!x1) (M.ret true) (M.bind (spec_l02Vector b) (fun x3 => M.ret (!x3)))) (fun x2 => M.ite x2 (M.ret 1) (M.bind (M.ite ((a_.length : Int) != (b.length : Int)) (M.ret true) (M.bind (spec_l08Fits a_) (fun x5 => M.ret (!x5)))) (fun x4 => M.ite x4 (M.ret 5) (M.ret 0)))))

def spec_l08Sub (a_ : List (List Int)) (b : List Int) : M ((List Int)) :=
  M.bind (M.loop (fun (s1 : (List Int) × Int) => M.bind (M.idx a_ 0) (fun x2 => M.ite (decide (s1.2 < (x2.length : Int))) (M.bind (M.forI 0 (a_.length : Int) (fun s => s) (fun i1 => (fun (s2 : Int × Bool) => M.bind (M.bind (M.idx a_ i1) (fun x4 => M.bind (M.idx x4 s1.2) (fun x5 => M.ite (x5 == (-1000000000000000)) (M.ret (s2.1, s2.2)) (M.bind (M.idx b i1) (fun x6 => M.bind (M.ite (x6 != (-1000000000000000)) (M.bind (M.idx b i1) (fun x7 => M.bind (M.idx a_ i1) (fun x8 => M.bind (M.idx x8 s1.2) (fun x9 => M.ret (w64 (x7 - x9)))))) (M.ret (-1000000000000000))) (fun (s4 : Int) => M.ite ((!s2.2) || (decide (s4 < s2.1))) (M.ret (s4, true)) (M.ret (s2.1, s2.2)))))))) (fun (s3 : Int × Bool) => M.ret (.inl (s3.1, s3.2))))) (0, false)) (fun x3 => M.bind (M.app s1.1 ([x3.1] : List Int)) (fun l1 => M.ret (.inl (l1, (w64 (s1.2 + 1))))))) (M.ret (.inr (s1.1, s1.2))))) (([] : List Int), 0)) (fun x1 => M.ret x1.1)

def impl_greatestSub (a_ : List (List Int)) (b : List Int) : M ((List Int) × Int) :=
  M.bind (impl_IsMatrix a_) (fun x1 => M.bind (M.ite (!x1) (M.ret true) (M.bind (impl_isVector b) (fun x3 => M.ret (!x3)))) (fun x2 => M.ite x2 (M.ret (([] : List Int), 1)) (M.ite ((a_.length : Int) != (b.length : Int)) (M.ret (([] : List Int), 5)) (M.bind (M.idx a_ 0) (fun x4 => M.bind (M.make (x4.length : Int) 0) (fun l1 => M.bind (M.forI 0 (l1.length : Int) (fun s => .inl s) (fun i1 => (fun (s1 : (List Int)) => M.bind (M.forI 0 (a_.length : Int) (fun s => s) (fun i2 => (fun (s3 : (List Int) × Bool) => M.bind (M.bind (M.idx a_ i2) (fun x7 => M.bind (M.idx x7 i1) (fun x8 => M.ite (x8 == (-1000000000000000)) (M.ret (s3.1, s3.2)) (M.bind (M.idx b i2) (fun x9 => M.bind (M.idx x7 i1) (fun x10 => M.bind (impl_times x9 (w64 (0 - x10))) (fun x11 => M.bind (M.ite (!s3.2) (M.ret true) (M.bind (M.idx s3.1 i1) (fun x13 => M.ret (decide (x11 < x13))))) (fun x12 => M.ite x12 (M.bind (M.idx s3.1 i1) (fun x14 => M.bind (M.upd s3.1 i1 x11) (fun l2 => M.ret (l2, true)))) (M.ret (s3.1, s3.2)))))))))) (fun (s4 : (List Int) × Bool) => M.ret (.inl (s4.1, s4.2))))) (s1, false)) (fun x6 => M.ite (!x6.2) (M.ret (.inr (.inr (([] : List Int), 5)))) (M.ret (.inl x6.1))))) l1) (fun x5 => M.cont x5 (fun s2 => M.ret (s2, 0)) (fun r => M.ret r))))))))

def laws_markInt64SS (a_ : List (List Int)) (k_ : Int) : M (Int × (List (List Int))) :=
  M.bind (M.forI 0 (a_.length : Int) (fun s => s) (fun i1 => (fun (s1 : (List (List Int)) × Int) => M.bind (M.idx s1.1 i1) (fun x2 => M.bind (laws_markInt64S x2 s1.2) (fun x3 => M.ret (.inl ((s1.1.set i1.toNat x3.2), x3.1)))))) (a_, k_)) (fun x1 => M.ret (x1.2, x1.1))

def spec_l02Apply (a_ : List (List Int)) (x_ : List Int) : M ((List Int)) :=
  M.bind (M.forI 0 (a_.length : Int) (fun s => s) (fun i1 => (fun (s1 : (List Int)) => M.bind (M.forI 0 (x_.length : Int) (fun s => s) (fun i2 => (fun (s2 : Int) => M.bind (M.idx a_ i1) (fun x3 => M.bind (M.idx x3 i2) (fun x4 => M.bind (M.idx x_ i2) (fun x5 => M.bind (spec_l01Times x4 x5) (fun x6 => M.ret (.inl (mx s2 x6)))))))) (-1000000000000000)) (fun x2 => M.bind (M.app s1 ([x2] : List Int)) (fun l1 => M.ret (.inl l1))))) ([] : List Int)) (fun x1 => M.ret x1)

def impl_timesVector (a_ : List (List Int)) (x_ : List Int) : M ((List Int)) :=
  M.bind (M.make (a_.length : Int) 0) (fun l1 => M.bind (M.forI 0 (a_.length : Int) (fun s => s) (fun i1 => (fun (s1 : (List Int)) => M.bind (M.idx a_ i1) (fun x2 => M.bind (M.idx s1 i1) (fun x3 => M.bind (M.upd s1 i1 (-1000000000000000)) (fun l2 => M.bind (M.forI 0 (x2.length : Int) (fun s => s) (fun i2 => (fun (s2 : (List Int)) => M.bind (M.idx x2 i2) (fun x5 => M.bind (M.idx s2 i1) (fun x6 => M.bind (M.idx x_ i2) (fun x7 => M.bind (impl_times x5 x7) (fun x8 => M.bind (M.idx s2 i1) (fun x9 => M.bind (M.upd s2 i1 (mx x6 x8)) (fun l3 => M.ret (.inl l3))))))))) l2) (fun x4 => M.ret (.inl x4))))))) l1) (fun x1 => M.ret x1))

def laws_heldInt64SS (a_ : List (List Int)) (k_ : Int) : M Int :=
  M.bind (M.forI 0 (a_.length : Int) (fun s => .inl s) (fun i1 => (fun (s1 : Int) => M.bind (M.idx a_ i1) (fun x2 => M.bind (laws_heldInt64S x2 s1) (fun x3 => M.ite (decide (x3 < 0)) (M.ret (.inr (.inr (-1)))) (M.ret (.inl x3)))))) k_) (fun x1 => M.cont x1 (fun s2 => M.ret s2) (fun r => M.ret r))

def spec_l08Covers (a_ : List (List Int)) (b : List Int) (x_ : List Int) (columns : List Int) : M Bool :=
  M.bind (M.forI 0 (b.length : Int) (fun s => .inl s) (fun i1 => (fun (_ : Unit) => M.bind (M.idx b i1) (fun x2 => M.bind (M.forI 0 (columns.length : Int) (fun s => s) (fun i2 => (fun (s3 : Bool) => M.bind (M.ite s3 (M.ret true) (M.bind (M.idx a_ i1) (fun x5 => M.bind (M.idx columns i2) (fun x6 => M.bind (M.idx x5 x6) (fun x7 => M.bind (M.idx columns i2) (fun x8 => M.bind (M.idx x_ x8) (fun x9 => M.bind (spec_l01Times x7 x9) (fun x10 => M.bind (M.idx b i1) (fun x11 => M.ret (x10 == x11)))))))))) (fun x4 => M.ret (.inl x4)))) (x2 == (-1000000000000000))) (fun x3 => M.ite (!x3) (M.ret (.inr (.inr false))) (M.ret (.inl ())))))) ()) (fun x1 => M.cont x1 (fun _ => M.ret true) (fun r => M.ret r))

def spec_LeastCover (a_ : List (List Int)) (b : List Int) : M ((List Int) × Int) :=
  M.bind (spec_l08Code a_ b) (fun x1 => M.ite (x1 != 0) (M.ret (([] : List Int), x1)) (M.bind (spec_l08Sub a_ b) (fun x2 => M.bind (spec_l02Apply a_ x2) (fun x3 => M.bind (spec_l01Same x3 b) (fun x4 => M.ite (!x4) (M.ret (([] : List Int), 4)) (M.bind (M.loop (fun (s1 : (List Int) × Bool × Int) => M.bind (M.guard (decide (0 ≤ (IntKind.u64.wrap ((x2.length : Int)))))) (fun _ => M.ite (decide (s1.2.2 < (ishl .i64 1 (IntKind.u64.wrap ((x2.length : Int)))))) (M.bind (M.forI 0 (x2.length : Int) (fun s => s) (fun i1 => (fun (s2 : (List Int)) => M.bind (M.guard (decide (0 ≤ (IntKind.u64.wrap (i1))))) (fun _ => M.bind (M.ite ((ibit .and .i64 (ishr .i64 s1.2.2 (IntKind.u64.wrap (i1))) 1) == 1) (M.bind (M.app s2 ([i1] : List Int)) (fun l1 => M.ret l1)) (M.ret s2)) (fun (s3 : (List Int)) => M.ret (.inl s3))))) ([] : List Int)) (fun x6 => M.bind (M.ite ((!s1.2.1) || (decide ((x6.length : Int) < (s1.1.length : Int)))) (M.ret true) (M.bind (M.ite ((x6.length : Int) == (s1.1.length : Int)) (M.bind (spec_l01Less x6 s1.1) (fun x10 => M.ret x10)) (M.ret false)) (fun x9 => M.ret x9))) (fun x8 => M.bind (M.ite x8 (M.bind (spec_l08Covers a_ b x2 x6) (fun x12 => M.ret x12)) (M.ret false)) (fun x11 => M.bind (M.ite x11 (M.ret (x6, true)) (M.ret (s1.1, s1.2.1))) (fun (s4 : (List Int) × Bool) => M.ret (.inl (s4.1, s4.2, (w64 (s1.2.2 + 1))))))))) (M.ret (.inr (s1.1, s1.2.1, s1.2.2))))) (([] : List Int), false, 0)) (fun x5 => M.ret (x5.1, 0))))))))

def impl_coversVector_1 (j : Int) (z0 : List (List Int)) (z1 : Int) (z2 : List Int) (z3 : Int) : M Bool :=
  M.bind (M.idx z0 z1) (fun x1 => M.bind (M.idx x1 j) (fun x2 => M.bind (M.idx z2 j) (fun x3 => M.bind (impl_times x2 x3) (fun x4 => M.ret (x4 == z3)))))

def slices_IndexFunc_int_F_impl_coversVector_1 (s_ : List Int) (f0 : List (List Int)) (f1 : Int) (f2 : List Int) (f3 : Int) : M Int :=
  M.bind (M.forI 0 (s_.length : Int) (fun s => .inl s) (fun i1 => (fun (_ : Unit) => M.bind (M.idx s_ i1) (fun x2 => M.bind (impl_coversVector_1 x2 f0 f1 f2 f3) (fun x3 => M.ite x3 (M.ret (.inr (.inr i1))) (M.ret (.inl ())))))) ()) (fun x1 => M.cont x1 (fun _ => M.ret (-1)) (fun r => M.ret r))

def slices_ContainsFunc_int_F_impl_coversVector_1 (s_ : List Int) (f0 : List (List Int)) (f1 : Int) (f2 : List Int) (f3 : Int) : M Bool :=
  M.bind (slices_IndexFunc_int_F_impl_coversVector_1 s_ f0 f1 f2 f3) (fun x1 => M.ret (decide (0 ≤ x1)))

def impl_coversVector (a_ : List (List Int)) (b : List Int) (x_ : List Int) (columns : List Int) : M Bool :=
  M.bind (M.forI 0 (b.length : Int) (fun s => .inl s) (fun i1 => (fun (_ : Unit) => M.bind (M.idx b i1) (fun x2 => M.bind (M.ite (x2 != (-1000000000000000)) (M.bind (slices_ContainsFunc_int_F_impl_coversVector_1 columns a_ i1 x_ x2) (fun x4 => M.ret (!x4))) (M.ret false)) (fun x3 => M.ite x3 (M.ret (.inr (.inr false))) (M.ret (.inl ())))))) ()) (fun x1 => M.cont x1 (fun _ => M.ret true) (fun r => M.ret r))

def slices_Compare_int (p0 : List Int) (p1 : List Int) : M Int :=
  M.bind (M.forI 0 (p0.length : Int) (fun s => .inl s) (fun i1 => (fun (_ : Unit) => M.bind (M.idx p0 i1) (fun x2 => M.ite (decide ((p1.length : Int) ≤ i1)) (M.ret (.inr (.inr 1))) (M.bind (M.idx p1 i1) (fun x3 => M.bind (cmp_Compare_i x2 x3) (fun x4 => M.ite (x4 != 0) (M.ret (.inr (.inr x4))) (M.ret (.inl ())))))))) ()) (fun x1 => M.cont x1 (fun _ => M.ite (decide ((p0.length : Int) < (p1.length : Int))) (M.ret (-1)) (M.ret 0)) (fun r => M.ret r))

def impl_leastCover (a_ : List (List Int)) (b : List Int) (x_ : List Int) : M ((List Int)) :=
  M.bind (M.guard (decide (0 ≤ (x_.length : Int)))) (fun _ => M.bind (M.forI 0 (ishl .i64 1 (x_.length : Int)) (fun s => s) (fun i1 => (fun (s1 : (List Int) × Bool) => M.bind (M.bind (M.forI 0 (x_.length : Int) (fun s => s) (fun i2 => (fun (s3 : (List Int)) => M.bind (M.guard (decide (0 ≤ i2))) (fun _ => M.bind (M.ite ((ibit .and .i64 (ishr .i64 i1 i2) 1) == 1) (M.bind (M.app s3 ([i2] : List Int)) (fun l1 => M.ret l1)) (M.ret s3)) (fun (s4 : (List Int)) => M.ret (.inl s4))))) []) (fun x2 => M.bind (impl_coversVector a_ b x_ x2) (fun x3 => M.ite (!x3) (M.ret (s1.1, s1.2)) (M.bind (M.ite ((!s1.2) || (decide ((x2.length : Int) < (s1.1.length : Int)))) (M.ret true) (M.bind (M.ite ((x2.length : Int) == (s1.1.length : Int)) (M.bind (slices_Compare_int x2 s1.1) (fun x7 => M.ret (decide (x7 < 0)))) (M.ret false)) (fun x6 => M.ret x6))) (fun x5 => M.ite x5 (M.ret (x2, true)) (M.ret (s1.1, s1.2))))))) (fun (s2 : (List Int) × Bool) => M.ret (.inl (s2.1, s2.2))))) ([], false)) (fun x1 => M.ret x1.1))

def impl_LeastCover (a_ : List (List Int)) (b : List Int) : M ((List Int) × Int) :=
  M.bind (impl_greatestSub a_ b) (fun x1 => M.ite (x1.2 != 0) (M.ret (([] : List Int), x1.2)) (M.bind (impl_timesVector a_ x1.1) (fun x2 => M.bind (slices_Equal_int x2 b) (fun x3 => M.ite (!x3) (M.ret (([] : List Int), 4)) (M.bind (impl_leastCover a_ b x1.1) (fun x4 => M.ret (x4, 0)))))))

def laws_FnExactLeastCover (aA : List (List Int)) (aB : List Int) : M Bool :=
  M.ite (decide (1048576 < (aB.length : Int))) (M.ret true) (M.bind (laws_szInt64SS aA 1048576) (fun x1 => M.ite (decide (x1 < 0)) (M.ret true) (M.bind (laws_toInt64SS aA) (fun x2 => M.bind (laws_toInt64S aB) (fun x3 => M.bind (spec_LeastCover x2 x3) (fun x4 => M.bind (laws_toInt64SS aA) (fun x5 => M.bind (laws_toInt64S aB) (fun x6 => M.bind (impl_LeastCover x5 x6) (fun x7 => M.bind (laws_eqInt64S x7.1 x4.1) (fun x8 => M.ite ((!x8) || (x7.2 != x4.2)) (M.ret false) (M.bind (laws_toInt64SS aA) (fun x10 => M.bind (laws_eqInt64SS x5 x10) (fun x11 => M.ite (!x11) (M.ret false) (M.bind (laws_toInt64S aB) (fun x12 => M.bind (laws_eqInt64S x6 x12) (fun x13 => M.ite (!x13) (M.ret false) (M.bind (laws_markInt64SS x5 1) (fun x14 => M.bind (laws_markInt64S x6 x14.1) (fun x15 => M.bind (M.ite (decide (x15.1 < 0)) (M.ret true) (M.bind (laws_eqInt64S x7.1 x4.1) (fun x17 => M.ret (!x17)))) (fun x16 => M.ite (x16 || (x7.2 != x4.2)) (M.ret false) (M.bind (laws_markInt64S x7.1 1) (fun x19 => M.bind (laws_heldInt64S x19.2 1) (fun x20 => M.ite (decide (x20 < 0)) (M.ret false) (M.ite (x20 != x19.1) (M.ret false) (M.bind (laws_toInt64SS aA) (fun x21 => M.bind (laws_toInt64S aB) (fun x22 => M.bind (impl_LeastCover x21 x22) (fun x23 => M.bind (laws_eqInt64S x23.1 x4.1) (fun x24 => M.ite ((!x24) || (x23.2 != x4.2)) (M.ret false) (M.bind (laws_heldInt64S x19.2 1) (fun x26 => M.ite (decide (x26 < 0)) (M.ret false) (M.ite (x26 != x19.1) (M.ret false) (M.ret true)))))))))))))))))))))))))))))))))

end Go.Proofs.Ytmpjjdgfkjompaa
