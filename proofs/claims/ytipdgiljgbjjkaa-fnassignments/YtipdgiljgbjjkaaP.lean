/-
  Plain programs: what each Go function that the law reaches computes, on lists and integers.
  Conditions: None beyond the given statement.
-/
import Derived.Test.YtipdgiljgbjjkaaM
namespace Go.Proofs.Ytipdgiljgbjjkaa
open Go
structure TPlace where
  From : Int
  To : Int
  Delay : Int
  Tokens : Int
structure TGraph where
  Events : Int
  Places : List TPlace
structure TRatio where
  Num : Int
  Den : Int
structure TCorner where
  At : TRatio
  Times : Int
structure TL01source where
  code : List Int
  at_ : Int
  seed : Int
structure TPermanent where
  weight : Int
  count : Int
structure TBoundserror where
  x : Int
  y : Int
  signed : Bool
  code : Int
structure TErroraddressstring where
  msg : ByteArray
  addr : Int
def spec_l01In (n_ : Int) (low : Int) (high : Int) : M Bool :=
  M.ret ((decide (low ≤ n_)) && (decide (n_ ≤ high)))

def spec_l01Finite (a_ : Int) : M Bool :=
  M.bind (spec_l01In a_ (-1000000) 1000000) (fun x1 => M.ret x1)

def spec_IsValue (a_ : Int) : M Bool :=
  M.bind (M.ite (a_ == (-1000000000000000)) (M.ret true) (M.bind (spec_l01Finite a_) (fun x2 => M.ret x2))) (fun x1 => M.ret x1)

def spec_l01All (list : List Int) (finite : Bool) : M Bool :=
  M.bind (M.forI 0 (list.length : Int) (fun s => .inl s) (fun i1 => (fun (_ : Unit) => M.bind (M.idx list i1) (fun x2 => M.bind (spec_IsValue x2) (fun x3 => M.bind (M.ite (!x3) (M.ret true) (M.bind (M.ite finite (M.bind (M.idx list i1) (fun x6 => M.ret (x6 == (-1000000000000000)))) (M.ret false)) (fun x5 => M.ret x5))) (fun x4 => M.ite x4 (M.ret (.inr (.inr false))) (M.ret (.inl ()))))))) ()) (fun x1 => M.cont x1 (fun _ => M.ret true) (fun r => M.ret r))

def impl_within (n_ : Int) (low : Int) (high : Int) : M Bool :=
  M.ret ((decide (low ≤ n_)) && (decide (n_ ≤ high)))

def impl_isFinite (n_ : Int) : M Bool :=
  M.bind (impl_within n_ (-1000000) 1000000) (fun x1 => M.ret x1)

def impl_IsValue (a_ : Int) : M Bool :=
  M.bind (M.ite (a_ == (-1000000000000000)) (M.ret true) (M.bind (impl_isFinite a_) (fun x2 => M.ret x2))) (fun x1 => M.ret x1)

def impl_areValues_1 (n_ : Int) : M Bool :=
  M.bind (impl_IsValue n_) (fun x1 => M.ret (!x1))

def slices_IndexFunc_int_F_impl_areValues_1 (s_ : List Int) : M Int :=
  M.bind (M.forI 0 (s_.length : Int) (fun s => .inl s) (fun i1 => (fun (_ : Unit) => M.bind (M.idx s_ i1) (fun x2 => M.bind (impl_areValues_1 x2) (fun x3 => M.ite x3 (M.ret (.inr (.inr i1))) (M.ret (.inl ())))))) ()) (fun x1 => M.cont x1 (fun _ => M.ret (-1)) (fun r => M.ret r))

def slices_ContainsFunc_int_F_impl_areValues_1 (s_ : List Int) : M Bool :=
  M.bind (slices_IndexFunc_int_F_impl_areValues_1 s_) (fun x1 => M.ret (decide (0 ≤ x1)))

def impl_areValues (list : List Int) : M Bool :=
  M.bind (slices_ContainsFunc_int_F_impl_areValues_1 list) (fun x1 => M.ret (!x1))

def spec_l01Times (a_ : Int) (b : Int) : M Int :=
  M.ite ((a_ == (-1000000000000000)) || (b == (-1000000000000000))) (M.ret (-1000000000000000)) (M.ret (w64 (a_ + b)))

def spec_l01Value (a_ : Int) : M (Int × Int) :=
  M.bind (spec_IsValue a_) (fun x1 => M.ite (!x1) (M.ret (0, 3)) (M.ret (a_, 0)))

def impl_checkedValue (n_ : Int) : M (Int × Int) :=
  M.bind (impl_IsValue n_) (fun x1 => M.ite (!x1) (M.ret (0, 3)) (M.ret (n_, 0)))

def spec_l02Bottom (m_ : Int) (n_ : Int) : M ((List (List Int))) :=
  M.bind (M.forI 0 m_ (fun s => s) (fun _ => (fun (s1 : (List (List Int))) => M.bind (M.forI 0 n_ (fun s => s) (fun _ => (fun (s2 : (List Int)) => M.bind (M.app s2 ([(-1000000000000000)] : List Int)) (fun l1 => M.ret (.inl l1)))) ([] : List Int)) (fun x2 => M.bind (M.app s1 [x2]) (fun l2 => M.ret (.inl l2))))) ([] : List (List Int))) (fun x1 => M.ret x1)

def spec_l02Vector (x_ : List Int) : M Bool :=
  M.bind (spec_l01In (x_.length : Int) 1 10) (fun x1 => M.bind (M.ite x1 (M.bind (spec_l01All x_ false) (fun x3 => M.ret x3)) (M.ret false)) (fun x2 => M.ret x2))

def spec_IsMatrix (a_ : List (List Int)) : M Bool :=
  M.ite ((decide ((a_.length : Int) < 1)) || (decide (10 < (a_.length : Int)))) (M.ret false) (M.bind (M.forI 0 (a_.length : Int) (fun s => .inl s) (fun i1 => (fun (_ : Unit) => M.bind (M.idx a_ i1) (fun x3 => M.bind (spec_l02Vector x3) (fun x4 => M.bind (M.ite (!x4) (M.ret true) (M.bind (M.idx a_ i1) (fun x6 => M.bind (M.idx a_ 0) (fun x7 => M.ret ((x6.length : Int) != (x7.length : Int)))))) (fun x5 => M.ite x5 (M.ret (.inr (.inr false))) (M.ret (.inl ()))))))) ()) (fun x2 => M.cont x2 (fun _ => M.ret true) (fun r => M.ret r)))

def spec_l02Square (a_ : List (List Int)) : M Bool :=
  M.bind (spec_IsMatrix a_) (fun x1 => M.bind (M.ite x1 (M.bind (M.idx a_ 0) (fun x3 => M.ret ((a_.length : Int) == (x3.length : Int)))) (M.ret false)) (fun x2 => M.ret x2))

def impl_IsMatrix_1 (row : List Int) (z0 : List (List Int)) : M Bool :=
  M.bind (M.idx z0 0) (fun x1 => M.bind (M.ite ((row.length : Int) != (x1.length : Int)) (M.ret true) (M.bind (impl_areValues row) (fun x3 => M.ret (!x3)))) (fun x2 => M.ret x2))

def slices_IndexFunc_row_F_impl_IsMatrix_1 (s_ : List (List Int)) (f0 : List (List Int)) : M Int :=
  M.bind (M.forI 0 (s_.length : Int) (fun s => .inl s) (fun i1 => (fun (_ : Unit) => M.bind (M.idx s_ i1) (fun x2 => M.bind (impl_IsMatrix_1 x2 f0) (fun x3 => M.ite x3 (M.ret (.inr (.inr i1))) (M.ret (.inl ())))))) ()) (fun x1 => M.cont x1 (fun _ => M.ret (-1)) (fun r => M.ret r))

def slices_ContainsFunc_row_F_impl_IsMatrix_1 (s_ : List (List Int)) (f0 : List (List Int)) : M Bool :=
  M.bind (slices_IndexFunc_row_F_impl_IsMatrix_1 s_ f0) (fun x1 => M.ret (decide (0 ≤ x1)))

def impl_IsMatrix (a_ : List (List Int)) : M Bool :=
  M.bind (impl_within (a_.length : Int) 1 10) (fun x1 => M.bind (M.ite (!x1) (M.ret true) (M.bind (M.idx a_ 0) (fun x3 => M.bind (impl_within (x3.length : Int) 1 10) (fun x4 => M.ret (!x4))))) (fun x2 => M.ite x2 (M.ret false) (M.bind (slices_ContainsFunc_row_F_impl_IsMatrix_1 a_ a_) (fun x5 => M.ret (!x5)))))

def impl_isSquare (a_ : List (List Int)) : M Bool :=
  M.bind (impl_IsMatrix a_) (fun x1 => M.bind (M.ite x1 (M.bind (M.idx a_ 0) (fun x3 => M.ret ((a_.length : Int) == (x3.length : Int)))) (M.ret false)) (fun x2 => M.ret x2))

def spec_l10Best (a_ : List (List Int)) : M ((List Int) × (List Int)) :=
  M.bind (M.loop (fun (s1 : (List Int) × (List Int) × Int) => M.bind (M.guard (decide (0 ≤ (IntKind.u64.wrap ((a_.length : Int)))))) (fun _ => M.ite (decide (s1.2.2 < (ishl .i64 1 (IntKind.u64.wrap ((a_.length : Int)))))) (M.bind (M.forI 0 (a_.length : Int) (fun s => s) (fun i1 => (fun (s2 : Int) => M.bind (M.guard (decide (0 ≤ (IntKind.u64.wrap (i1))))) (fun _ => M.ret (.inl (w64 (s2 + (ibit .and .i64 (ishr .i64 s1.2.2 (IntKind.u64.wrap (i1))) 1))))))) 0) (fun x2 => M.bind (M.forI 0 (a_.length : Int) (fun s => s) (fun i2 => (fun (s3 : Int × Int) => M.bind (M.bind (M.guard (decide (0 ≤ (IntKind.u64.wrap (i2))))) (fun _ => M.ite ((ibit .and .i64 (ishr .i64 s1.2.2 (IntKind.u64.wrap (i2))) 1) == 0) (M.ret (s3.1, s3.2)) (M.bind (M.guard (decide (0 ≤ (IntKind.u64.wrap (i2))))) (fun _ => M.bind (M.idx a_ (w64 ((a_.length : Int) - x2))) (fun x4 => M.bind (M.idx x4 i2) (fun x5 => M.bind (M.idx s1.1 (w64 (s1.2.2 - (ishl .i64 1 (IntKind.u64.wrap (i2)))))) (fun x6 => M.bind (spec_l01Times x5 x6) (fun x7 => M.ite (x7 == (-1000000000000000)) (M.ret (s3.1, s3.2)) (M.bind (M.ite (decide (s3.1 < x7)) (M.bind (M.idx s1.2.1 (w64 (s1.2.2 - (ishl .i64 1 (IntKind.u64.wrap (i2)))))) (fun x8 => M.ret (x7, x8))) (M.ite (x7 == s3.1) (M.bind (M.idx s1.2.1 (w64 (s1.2.2 - (ishl .i64 1 (IntKind.u64.wrap (i2)))))) (fun x9 => M.ret (s3.1, (w64 (s3.2 + x9))))) (M.ret (s3.1, s3.2)))) (fun (s5 : Int × Int) => M.ret (s5.1, s5.2))))))))))) (fun (s4 : Int × Int) => M.ret (.inl (s4.1, s4.2))))) ((-1000000000000000), 0)) (fun x3 => M.bind (M.app s1.1 ([x3.1] : List Int)) (fun l1 => M.bind (M.app s1.2.1 ([x3.2] : List Int)) (fun l2 => M.ret (.inl (l1, l2, (w64 (s1.2.2 + 1))))))))) (M.ret (.inr (s1.1, s1.2.1, s1.2.2))))) (([0] : List Int), ([1] : List Int), 1)) (fun x1 => M.ret (x1.1, x1.2.1))

def math_bits_OnesCount64 (x_ : Int) : M Int :=
  M.bind (M.guard (decide (0 ≤ 1))) (fun _ => M.bind (M.guard (decide (0 ≤ 2))) (fun _ => M.bind (M.guard (decide (0 ≤ 4))) (fun _ => M.bind (M.guard (decide (0 ≤ 8))) (fun _ => M.bind (M.guard (decide (0 ≤ 16))) (fun _ => M.bind (M.guard (decide (0 ≤ 32))) (fun _ => M.ret (ibit .and .i64 (w64 (IntKind.u64.wrap ((IntKind.u64.wrap ((IntKind.u64.wrap ((ibit .and .u64 (IntKind.u64.wrap ((ishr .u64 (IntKind.u64.wrap ((ibit .and .u64 (ishr .u64 (IntKind.u64.wrap ((ibit .and .u64 (ishr .u64 x_ 1) 6148914691236517205) + (ibit .and .u64 x_ 6148914691236517205))) 2) 3689348814741910323) + (ibit .and .u64 (IntKind.u64.wrap ((ibit .and .u64 (ishr .u64 x_ 1) 6148914691236517205) + (ibit .and .u64 x_ 6148914691236517205))) 3689348814741910323))) 4) + (IntKind.u64.wrap ((ibit .and .u64 (ishr .u64 (IntKind.u64.wrap ((ibit .and .u64 (ishr .u64 x_ 1) 6148914691236517205) + (ibit .and .u64 x_ 6148914691236517205))) 2) 3689348814741910323) + (ibit .and .u64 (IntKind.u64.wrap ((ibit .and .u64 (ishr .u64 x_ 1) 6148914691236517205) + (ibit .and .u64 x_ 6148914691236517205))) 3689348814741910323))))) 1085102592571150095) + (ishr .u64 (ibit .and .u64 (IntKind.u64.wrap ((ishr .u64 (IntKind.u64.wrap ((ibit .and .u64 (ishr .u64 (IntKind.u64.wrap ((ibit .and .u64 (ishr .u64 x_ 1) 6148914691236517205) + (ibit .and .u64 x_ 6148914691236517205))) 2) 3689348814741910323) + (ibit .and .u64 (IntKind.u64.wrap ((ibit .and .u64 (ishr .u64 x_ 1) 6148914691236517205) + (ibit .and .u64 x_ 6148914691236517205))) 3689348814741910323))) 4) + (IntKind.u64.wrap ((ibit .and .u64 (ishr .u64 (IntKind.u64.wrap ((ibit .and .u64 (ishr .u64 x_ 1) 6148914691236517205) + (ibit .and .u64 x_ 6148914691236517205))) 2) 3689348814741910323) + (ibit .and .u64 (IntKind.u64.wrap ((ibit .and .u64 (ishr .u64 x_ 1) 6148914691236517205) + (ibit .and .u64 x_ 6148914691236517205))) 3689348814741910323))))) 1085102592571150095) 8))) + (ishr .u64 (IntKind.u64.wrap ((ibit .and .u64 (IntKind.u64.wrap ((ishr .u64 (IntKind.u64.wrap ((ibit .and .u64 (ishr .u64 (IntKind.u64.wrap ((ibit .and .u64 (ishr .u64 x_ 1) 6148914691236517205) + (ibit .and .u64 x_ 6148914691236517205))) 2) 3689348814741910323) + (ibit .and .u64 (IntKind.u64.wrap ((ibit .and .u64 (ishr .u64 x_ 1) 6148914691236517205) + (ibit .and .u64 x_ 6148914691236517205))) 3689348814741910323))) 4) + (IntKind.u64.wrap ((ibit .and .u64 (ishr .u64 (IntKind.u64.wrap ((ibit .and .u64 (ishr .u64 x_ 1) 6148914691236517205) + (ibit .and .u64 x_ 6148914691236517205))) 2) 3689348814741910323) + (ibit .and .u64 (IntKind.u64.wrap ((ibit .and .u64 (ishr .u64 x_ 1) 6148914691236517205) + (ibit .and .u64 x_ 6148914691236517205))) 3689348814741910323))))) 1085102592571150095) + (ishr .u64 (ibit .and .u64 (IntKind.u64.wrap ((ishr .u64 (IntKind.u64.wrap ((ibit .and .u64 (ishr .u64 (IntKind.u64.wrap ((ibit .and .u64 (ishr .u64 x_ 1) 6148914691236517205) + (ibit .and .u64 x_ 6148914691236517205))) 2) 3689348814741910323) + (ibit .and .u64 (IntKind.u64.wrap ((ibit .and .u64 (ishr .u64 x_ 1) 6148914691236517205) + (ibit .and .u64 x_ 6148914691236517205))) 3689348814741910323))) 4) + (IntKind.u64.wrap ((ibit .and .u64 (ishr .u64 (IntKind.u64.wrap ((ibit .and .u64 (ishr .u64 x_ 1) 6148914691236517205) + (ibit .and .u64 x_ 6148914691236517205))) 2) 3689348814741910323) + (ibit .and .u64 (IntKind.u64.wrap ((ibit .and .u64 (ishr .u64 x_ 1) 6148914691236517205) + (ibit .and .u64 x_ 6148914691236517205))) 3689348814741910323))))) 1085102592571150095) 8))) 16))) + (ishr .u64 (IntKind.u64.wrap ((IntKind.u64.wrap ((ibit .and .u64 (IntKind.u64.wrap ((ishr .u64 (IntKind.u64.wrap ((ibit .and .u64 (ishr .u64 (IntKind.u64.wrap ((ibit .and .u64 (ishr .u64 x_ 1) 6148914691236517205) + (ibit .and .u64 x_ 6148914691236517205))) 2) 3689348814741910323) + (ibit .and .u64 (IntKind.u64.wrap ((ibit .and .u64 (ishr .u64 x_ 1) 6148914691236517205) + (ibit .and .u64 x_ 6148914691236517205))) 3689348814741910323))) 4) + (IntKind.u64.wrap ((ibit .and .u64 (ishr .u64 (IntKind.u64.wrap ((ibit .and .u64 (ishr .u64 x_ 1) 6148914691236517205) + (ibit .and .u64 x_ 6148914691236517205))) 2) 3689348814741910323) + (ibit .and .u64 (IntKind.u64.wrap ((ibit .and .u64 (ishr .u64 x_ 1) 6148914691236517205) + (ibit .and .u64 x_ 6148914691236517205))) 3689348814741910323))))) 1085102592571150095) + (ishr .u64 (ibit .and .u64 (IntKind.u64.wrap ((ishr .u64 (IntKind.u64.wrap ((ibit .and .u64 (ishr .u64 (IntKind.u64.wrap ((ibit .and .u64 (ishr .u64 x_ 1) 6148914691236517205) + (ibit .and .u64 x_ 6148914691236517205))) 2) 3689348814741910323) + (ibit .and .u64 (IntKind.u64.wrap ((ibit .and .u64 (ishr .u64 x_ 1) 6148914691236517205) + (ibit .and .u64 x_ 6148914691236517205))) 3689348814741910323))) 4) + (IntKind.u64.wrap ((ibit .and .u64 (ishr .u64 (IntKind.u64.wrap ((ibit .and .u64 (ishr .u64 x_ 1) 6148914691236517205) + (ibit .and .u64 x_ 6148914691236517205))) 2) 3689348814741910323) + (ibit .and .u64 (IntKind.u64.wrap ((ibit .and .u64 (ishr .u64 x_ 1) 6148914691236517205) + (ibit .and .u64 x_ 6148914691236517205))) 3689348814741910323))))) 1085102592571150095) 8))) + (ishr .u64 (IntKind.u64.wrap ((ibit .and .u64 (IntKind.u64.wrap ((ishr .u64 (IntKind.u64.wrap ((ibit .and .u64 (ishr .u64 (IntKind.u64.wrap ((ibit .and .u64 (ishr .u64 x_ 1) 6148914691236517205) + (ibit .and .u64 x_ 6148914691236517205))) 2) 3689348814741910323) + (ibit .and .u64 (IntKind.u64.wrap ((ibit .and .u64 (ishr .u64 x_ 1) 6148914691236517205) + (ibit .and .u64 x_ 6148914691236517205))) 3689348814741910323))) 4) + (IntKind.u64.wrap ((ibit .and .u64 (ishr .u64 (IntKind.u64.wrap ((ibit .and .u64 (ishr .u64 x_ 1) 6148914691236517205) + (ibit .and .u64 x_ 6148914691236517205))) 2) 3689348814741910323) + (ibit .and .u64 (IntKind.u64.wrap ((ibit .and .u64 (ishr .u64 x_ 1) 6148914691236517205) + (ibit .and .u64 x_ 6148914691236517205))) 3689348814741910323))))) 1085102592571150095) + (ishr .u64 (ibit .and .u64 (IntKind.u64.wrap ((ishr .u64 (IntKind.u64.wrap ((ibit .and .u64 (ishr .u64 (IntKind.u64.wrap ((ibit .and .u64 (ishr .u64 x_ 1) 6148914691236517205) + (ibit .and .u64 x_ 6148914691236517205))) 2) 3689348814741910323) + (ibit .and .u64 (IntKind.u64.wrap ((ibit .and .u64 (ishr .u64 x_ 1) 6148914691236517205) + (ibit .and .u64 x_ 6148914691236517205))) 3689348814741910323))) 4) + (IntKind.u64.wrap ((ibit .and .u64 (ishr .u64 (IntKind.u64.wrap ((ibit .and .u64 (ishr .u64 x_ 1) 6148914691236517205) + (ibit .and .u64 x_ 6148914691236517205))) 2) 3689348814741910323) + (ibit .and .u64 (IntKind.u64.wrap ((ibit .and .u64 (ishr .u64 x_ 1) 6148914691236517205) + (ibit .and .u64 x_ 6148914691236517205))) 3689348814741910323))))) 1085102592571150095) 8))) 16))) 32)))) 127)))))))

def math_bits_OnesCount (x_ : Int) : M Int :=
  M.bind (math_bits_OnesCount64 x_) (fun x1 => M.ret x1)

def impl_permanents (a_ : List (List Int)) : M ((List TPermanent)) :=
  M.bind (M.guard (decide (0 ≤ (a_.length : Int)))) (fun _ => M.bind (M.make (ishl .i64 1 (a_.length : Int)) (⟨0, 0⟩ : TPermanent)) (fun l1 => M.bind (M.guard (decide (0 ≤ (a_.length : Int)))) (fun _ => M.bind (M.loop (fun (s1 : (List TPermanent) × Int) => M.ite (decide (0 ≤ s1.2)) (M.bind (M.ite (s1.2 == (w64 ((ishl .i64 1 (a_.length : Int)) - 1))) (M.bind (M.idx s1.1 s1.2) (fun x2 => M.bind (M.upd s1.1 s1.2 (⟨0, 1⟩ : TPermanent)) (fun l2 => M.ret l2))) (M.bind (math_bits_OnesCount (IntKind.u64.wrap (s1.2))) (fun x3 => M.bind (M.idx a_ x3) (fun x4 => M.bind (M.forI 0 (x4.length : Int) (fun s => s) (fun i1 => (fun (s3 : TPermanent) => M.bind (M.bind (M.idx x4 i1) (fun x6 => M.bind (M.guard (decide (0 ≤ i1))) (fun _ => M.bind (M.idx s1.1 (ibit .or .i64 s1.2 (ishl .i64 1 i1))) (fun x7 => M.bind (M.guard (decide (0 ≤ i1))) (fun _ => M.ite ((((ibit .and .i64 (ishr .i64 s1.2 i1) 1) == 1) || (x6 == (-1000000000000000))) || (x7.weight == (-1000000000000000))) (M.ret s3) (M.bind (M.ite ((s3.count == 0) || (decide (s3.weight < (w64 (x6 + x7.weight))))) (M.ret (⟨(w64 (x6 + x7.weight)), x7.count⟩ : TPermanent)) (M.ite ((w64 (x6 + x7.weight)) == s3.weight) (M.ret (⟨s3.weight, (w64 (s3.count + x7.count))⟩ : TPermanent)) (M.ret s3))) (fun (s5 : TPermanent) => M.ret s5))))))) (fun (s4 : TPermanent) => M.ret (.inl s4)))) (⟨(-1000000000000000), 0⟩ : TPermanent)) (fun x5 => M.bind (M.idx s1.1 s1.2) (fun x11 => M.bind (M.upd s1.1 s1.2 (x5 : TPermanent)) (fun l3 => M.ret l3))))))) (fun (s2 : (List TPermanent)) => M.ret (.inl (s2, (w64 (s1.2 - 1)))))) (M.ret (.inr (s1.1, s1.2)))) (l1, (w64 ((ishl .i64 1 (a_.length : Int)) - 1)))) (fun x1 => M.ret x1.1))))

def spec_l10Assignment (a_ : List (List Int)) : M ((List Int) × Bool) :=
  M.bind (spec_l10Best a_) (fun x1 => M.bind (M.idx x1.1 (w64 ((x1.1.length : Int) - 1))) (fun x2 => M.ite (x2 == (-1000000000000000)) (M.ret (([] : List Int), false)) (M.bind (M.forI 0 (a_.length : Int) (fun s => s) (fun i1 => (fun (s1 : Int × (List Int)) => M.bind (M.forI 0 (a_.length : Int) (fun s => s) (fun i2 => (fun (s2 : Int × (List Int)) => M.bind (M.guard (decide (0 ≤ (IntKind.u64.wrap (i2))))) (fun _ => M.bind (M.ite ((ibit .and .i64 (ishr .i64 s2.1 (IntKind.u64.wrap (i2))) 1) == 1) (M.bind (M.idx a_ i1) (fun x6 => M.bind (M.idx x6 i2) (fun x7 => M.ret (x7 != (-1000000000000000))))) (M.ret false)) (fun x5 => M.bind (M.ite x5 (M.bind (M.idx a_ i1) (fun x9 => M.bind (M.idx x9 i2) (fun x10 => M.bind (M.guard (decide (0 ≤ (IntKind.u64.wrap (i2))))) (fun _ => M.bind (M.idx x1.1 (w64 (s2.1 - (ishl .i64 1 (IntKind.u64.wrap (i2)))))) (fun x11 => M.bind (spec_l01Times x10 x11) (fun x12 => M.bind (M.idx x1.1 s2.1) (fun x13 => M.ret (x12 == x13)))))))) (M.ret false)) (fun x8 => M.ite x8 (M.bind (M.app s2.2 ([i2] : List Int)) (fun l1 => M.bind (M.guard (decide (0 ≤ (IntKind.u64.wrap (i2))))) (fun _ => M.ret (.inr ((w64 (s2.1 - (ishl .i64 1 (IntKind.u64.wrap (i2))))), l1))))) (M.ret (.inl (s2.1, s2.2)))))))) (s1.1, s1.2)) (fun x4 => M.ret (.inl (x4.1, x4.2))))) ((w64 ((x1.1.length : Int) - 1)), ([] : List Int))) (fun x3 => M.ret (x3.2, true)))))

def spec_BestAssignment (a_ : List (List Int)) : M ((List Int) × Int) :=
  M.bind (spec_l02Square a_) (fun x1 => M.ite (!x1) (M.ret (([] : List Int), 1)) (M.bind (spec_l10Assignment a_) (fun x2 => M.ite (!x2.2) (M.ret (([] : List Int), 4)) (M.ret (x2.1, 0)))))

def impl_bestAssignment (a_ : List (List Int)) : M ((List Int) × Bool) :=
  M.bind (impl_permanents a_) (fun x1 => M.bind (M.idx x1 0) (fun x2 => M.ite (x2.weight == (-1000000000000000)) (M.ret (([] : List Int), false)) (M.bind (M.forI 0 (a_.length : Int) (fun s => s) (fun i1 => (fun (s1 : (List Int) × Int) => M.bind (M.idx a_ i1) (fun x4 => M.bind (M.forI 0 (x4.length : Int) (fun s => s) (fun i2 => (fun (s2 : (List Int) × Int) => M.bind (M.idx x4 i2) (fun x6 => M.bind (M.guard (decide (0 ≤ i2))) (fun _ => M.bind (M.idx x1 (ibit .or .i64 s2.2 (ishl .i64 1 i2))) (fun x7 => M.bind (M.guard (decide (0 ≤ i2))) (fun _ => M.bind (M.ite ((((ibit .and .i64 (ishr .i64 s2.2 i2) 1) == 0) && (x6 != (-1000000000000000))) && (x7.weight != (-1000000000000000))) (M.bind (M.idx x1 s2.2) (fun x11 => M.ret ((w64 (x6 + x7.weight)) == x11.weight))) (M.ret false)) (fun x10 => M.ite x10 (M.bind (M.app s2.1 ([i2] : List Int)) (fun l1 => M.bind (M.guard (decide (0 ≤ i2))) (fun _ => M.ret (.inr (l1, (ibit .or .i64 s2.2 (ishl .i64 1 i2))))))) (M.ret (.inl (s2.1, s2.2)))))))))) (s1.1, s1.2)) (fun x5 => M.ret (.inl (x5.1, x5.2)))))) ([], 0)) (fun x3 => M.ret (x3.1, true)))))

def impl_BestAssignment (a_ : List (List Int)) : M ((List Int) × Int) :=
  M.bind (impl_isSquare a_) (fun x1 => M.ite (!x1) (M.ret (([] : List Int), 1)) (M.bind (impl_bestAssignment a_) (fun x2 => M.ite (!x2.2) (M.ret (([] : List Int), 4)) (M.ret (x2.1, 0)))))

def spec_l10Top (a_ : List (List Int)) : M Int :=
  M.bind (spec_l10Best a_) (fun x1 => M.bind (M.idx x1.1 (w64 ((x1.1.length : Int) - 1))) (fun x2 => M.ret x2))

def spec_CountAssignments (a_ : List (List Int)) : M (Int × Int) :=
  M.bind (spec_l02Square a_) (fun x1 => M.ite (!x1) (M.ret (0, 1)) (M.bind (spec_l10Best a_) (fun x2 => M.bind (M.idx x2.2 (w64 ((x2.2.length : Int) - 1))) (fun x3 => M.bind (spec_l01Value x3) (fun x4 => M.ret (x4.1, x4.2))))))

def impl_CountAssignments (a_ : List (List Int)) : M (Int × Int) :=
  M.bind (impl_isSquare a_) (fun x1 => M.ite (!x1) (M.ret (0, 1)) (M.bind (impl_permanents a_) (fun x2 => M.bind (M.idx x2 0) (fun x3 => M.ite (x3.weight == (-1000000000000000)) (M.ret (0, 0)) (M.bind (impl_checkedValue x3.count) (fun x4 => M.ret (x4.1, x4.2)))))))

def spec_IsSingular (a_ : List (List Int)) : M (Bool × Int) :=
  M.bind (spec_l02Square a_) (fun x1 => M.ite (!x1) (M.ret (false, 1)) (M.bind (spec_l10Best a_) (fun x2 => M.bind (M.idx x2.2 (w64 ((x2.2.length : Int) - 1))) (fun x3 => M.ret ((x3 != 1), 0)))))

def impl_IsSingular (a_ : List (List Int)) : M (Bool × Int) :=
  M.bind (impl_isSquare a_) (fun x1 => M.ite (!x1) (M.ret (false, 1)) (M.bind (impl_permanents a_) (fun x2 => M.bind (M.idx x2 0) (fun x3 => M.ret (((x3.weight == (-1000000000000000)) || (decide (1 < x3.count))), 0)))))

def spec_PermanentOf (a_ : List (List Int)) : M (Int × Int) :=
  M.bind (spec_l02Square a_) (fun x1 => M.ite (!x1) (M.ret (0, 1)) (M.bind (spec_l10Top a_) (fun x2 => M.bind (spec_l01Value x2) (fun x3 => M.ret (x3.1, x3.2)))))

def impl_PermanentOf (a_ : List (List Int)) : M (Int × Int) :=
  M.bind (impl_isSquare a_) (fun x1 => M.ite (!x1) (M.ret (0, 1)) (M.bind (impl_permanents a_) (fun x2 => M.bind (M.idx x2 0) (fun x3 => M.bind (impl_checkedValue x3.weight) (fun x4 => M.ret (x4.1, x4.2))))))

def laws_big (code : List Int) : M Bool :=
  M.ret (decide (4096 < (code.length : Int)))

def spec_l01From (code : List Int) : M TL01source :=
  M.bind (M.loop (fun (s1 : Int × Int) => M.ite ((decide (s1.2 < (code.length : Int))) && (decide (s1.2 < 64))) (M.bind (M.idx code s1.2) (fun x3 => M.ret (.inl (((w64 ((w64 (s1.1 * 67)) + (w64 (x3)))).tmod 2147483647), (w64 (s1.2 + 1)))))) (M.ret (.inr (s1.1, s1.2)))) (61403, 0)) (fun x1 => M.ret (⟨code, 0, x1.1⟩ : TL01source))

def spec_l01Next (s_ : TL01source) (n_ : Int) : M (Int × TL01source) :=
  M.ite (decide (n_ ≤ 1)) (M.ret (0, s_)) (M.bind (M.ite (decide (s_.at_ < (s_.code.length : Int))) (M.bind (M.idx s_.code s_.at_) (fun x1 => M.ite ((decide (n_ ≤ 256)) && (((w64 (s_.at_ + 1)).tmod 2) == 0)) (M.bind (M.idx s_.code (w64 ((w64 (s_.at_ + 1)) - 1))) (fun x3 => M.ret ((w64 (x3)), (w64 (s_.at_ + 1))))) (M.ret ((w64 ((w64 (((w64 ((w64 (s_.seed * 48271)) + 59)).tmod 2147483647).tdiv 31)) + (w64 (x1)))), (w64 (s_.at_ + 1)))))) (M.ret ((w64 (((w64 ((w64 (s_.seed * 48271)) + 59)).tmod 2147483647).tdiv 31)), s_.at_))) (fun (s1 : Int × Int) => M.bind (M.guard (n_ != 0)) (fun _ => M.ret ((s1.1.tmod n_), (⟨s_.code, s1.2, ((w64 ((w64 (s_.seed * 48271)) + 59)).tmod 2147483647)⟩ : TL01source)))))

def spec_l01Pick (s_ : TL01source) (list : List Int) : M (Int × TL01source × (List Int)) :=
  M.bind (spec_l01Next s_ (list.length : Int)) (fun x1 => M.bind (M.idx list x1.1) (fun x2 => M.ret (x2, (⟨s_.code, x1.2.at_, x1.2.seed⟩ : TL01source), list)))

def laws_likeInts (a_ : List Int) (b : List Int) : M Bool :=
  M.ite ((a_.length : Int) != (b.length : Int)) (M.ret false) (M.bind (M.forI 0 (a_.length : Int) (fun s => .inl s) (fun i1 => (fun (_ : Unit) => M.bind (M.idx a_ i1) (fun x2 => M.bind (M.idx b i1) (fun x3 => M.ite (x2 != x3) (M.ret (.inr (.inr false))) (M.ret (.inl ())))))) ()) (fun x1 => M.cont x1 (fun _ => M.ret true) (fun r => M.ret r)))

def spec_l01DrawValue (s_ : TL01source) : M (Int × TL01source) :=
  M.bind (spec_l01Next s_ 24) (fun x1 => M.bind (M.ite (x1.1 == 0) (M.ret (x1.1 == 0)) (M.ite (x1.1 == 1) (M.ret (x1.1 == 1)) (M.ret (x1.1 == 2)))) (fun (s1 : Bool) => M.ite s1 (M.ret ((-1000000000000000), (⟨s_.code, x1.2.at_, x1.2.seed⟩ : TL01source))) (M.ite (x1.1 == 3) (M.bind (spec_l01Pick (⟨s_.code, x1.2.at_, x1.2.seed⟩ : TL01source) ([1000000, 1000001, (-1000000), (-1000001), (-999999999999999), (-1000000000000001), 9223372036854775807] : List Int)) (fun x2 => M.ret (x2.1, (⟨s_.code, x2.2.1.at_, x2.2.1.seed⟩ : TL01source)))) (M.ite (x1.1 == 4) (M.bind (spec_l01Next (⟨s_.code, x1.2.at_, x1.2.seed⟩ : TL01source) 2000) (fun x3 => M.ret ((w64 ((w64 (x3.1 - 1000)) * 701)), (⟨s_.code, x3.2.at_, x3.2.seed⟩ : TL01source)))) (M.bind (spec_l01Next (⟨s_.code, x1.2.at_, x1.2.seed⟩ : TL01source) 41) (fun x4 => M.ret ((w64 (x4.1 - 20)), (⟨s_.code, x4.2.at_, x4.2.seed⟩ : TL01source))))))))

def spec_l02DrawSize (s_ : TL01source) (m_ : Int) (n_ : Int) : M ((List (List Int)) × TL01source) :=
  M.bind (spec_l02Bottom m_ n_) (fun x1 => M.bind (spec_l01Pick s_ ([2, 3, 5] : List Int)) (fun x2 => M.bind (M.forI 0 m_ (fun s => s) (fun i1 => (fun (s1 : Int × Int × (List (List Int))) => M.bind (M.forI 0 n_ (fun s => s) (fun i2 => (fun (s2 : Int × Int × (List (List Int))) => M.bind (spec_l01Next (⟨s_.code, s2.1, s2.2.1⟩ : TL01source) x2.1) (fun x5 => M.bind (M.ite (decide (0 < x5.1)) (M.bind (M.idx s2.2.2 i1) (fun x6 => M.bind (spec_l01Next (⟨s_.code, x5.2.at_, x5.2.seed⟩ : TL01source) 26) (fun x7 => M.bind (M.idx x6 i2) (fun x8 => M.bind (M.upd x6 i2 (w64 (x7.1 - 10))) (fun l1 => M.ret (x7.2.at_, x7.2.seed, (s2.2.2.set i1.toNat l1))))))) (M.ret (x5.2.at_, x5.2.seed, s2.2.2))) (fun (s3 : Int × Int × (List (List Int))) => M.ret (.inl (s3.1, s3.2.1, s3.2.2)))))) (s1.1, s1.2.1, s1.2.2)) (fun x4 => M.ret (.inl (x4.1, x4.2.1, x4.2.2))))) (x2.2.1.at_, x2.2.1.seed, x1)) (fun x3 => M.bind (spec_l01Next (⟨s_.code, x3.1, x3.2.1⟩ : TL01source) 60) (fun x9 => M.ite (x9.1 == 0) (M.bind (M.idx x3.2.2 0) (fun x10 => M.bind (spec_l01DrawValue (⟨s_.code, x9.2.at_, x9.2.seed⟩ : TL01source)) (fun x11 => M.bind (M.idx x10 0) (fun x12 => M.bind (M.upd x10 0 x11.1) (fun l2 => M.ret ((x3.2.2.set 0 l2), (⟨s_.code, x11.2.at_, x11.2.seed⟩ : TL01source))))))) (M.ite (x9.1 == 1) (M.bind (M.app x3.2.2 [([] : List Int)]) (fun l3 => M.ret (l3, (⟨s_.code, x9.2.at_, x9.2.seed⟩ : TL01source)))) (M.ite (x9.1 == 2) (M.ret (([] : List (List Int)), (⟨s_.code, x9.2.at_, x9.2.seed⟩ : TL01source))) (M.ret (x3.2.2, (⟨s_.code, x9.2.at_, x9.2.seed⟩ : TL01source)))))))))

def spec_l02DrawSquare (s_ : TL01source) : M ((List (List Int)) × TL01source) :=
  M.bind (spec_l01Next s_ 5) (fun x1 => M.bind (spec_l02DrawSize (⟨s_.code, x1.2.at_, x1.2.seed⟩ : TL01source) (w64 (1 + x1.1)) (w64 (1 + x1.1))) (fun x2 => M.ret (x2.1, (⟨s_.code, x2.2.at_, x2.2.seed⟩ : TL01source))))

def spec_DrawBestAssignment (code : List Int) : M ((List (List Int))) :=
  M.bind (spec_l01From code) (fun x1 => M.bind (spec_l02DrawSquare x1) (fun x2 => M.ret x2.1))

def spec_DrawCountAssignments (code : List Int) : M ((List (List Int))) :=
  M.bind (spec_l01From code) (fun x1 => M.bind (spec_l02DrawSquare x1) (fun x2 => M.bind (M.bind (spec_l02Square x2.1) (fun x3 => M.ite x3 (M.bind (spec_l01Next (⟨x1.code, x2.2.at_, x2.2.seed⟩ : TL01source) 2) (fun x4 => M.ret (x4.2.at_, x4.2.seed, (x4.1 == 0)))) (M.ret (x2.2.at_, x2.2.seed, false)))) (fun (s1 : Int × Int × Bool) => M.bind (M.ite s1.2.2 (M.bind (M.forI 0 (x2.1.length : Int) (fun s => s) (fun i1 => (fun (s3 : Int × Int × (List (List Int))) => M.bind (M.forI 0 (x2.1.length : Int) (fun s => s) (fun i2 => (fun (s4 : Int × Int × (List (List Int))) => M.bind (M.idx s4.2.2 i1) (fun x7 => M.bind (M.idx x7 i2) (fun x8 => M.bind (M.ite (x8 != (-1000000000000000)) (M.bind (M.idx s4.2.2 i1) (fun x9 => M.bind (spec_l01Next (⟨x1.code, s4.1, s4.2.1⟩ : TL01source) 2) (fun x10 => M.bind (M.idx x9 i2) (fun x11 => M.bind (M.upd x9 i2 x10.1) (fun l1 => M.ret (x10.2.at_, x10.2.seed, (s4.2.2.set i1.toNat l1))))))) (M.ret (s4.1, s4.2.1, s4.2.2))) (fun (s5 : Int × Int × (List (List Int))) => M.ret (.inl (s5.1, s5.2.1, s5.2.2))))))) (s3.1, s3.2.1, s3.2.2)) (fun x6 => M.ret (.inl (x6.1, x6.2.1, x6.2.2))))) (s1.1, s1.2.1, x2.1)) (fun x5 => M.ret x5.2.2)) (M.ret x2.1)) (fun (s2 : (List (List Int))) => M.ret s2))))

def laws_FnAssignments (code : List Int) : M Bool :=
  M.bind (laws_big code) (fun x1 => M.ite x1 (M.ret true) (M.bind (spec_DrawBestAssignment code) (fun x2 => M.bind (impl_BestAssignment x2) (fun x3 => M.bind (spec_BestAssignment x2) (fun x4 => M.bind (impl_PermanentOf x2) (fun x5 => M.bind (spec_PermanentOf x2) (fun x6 => M.bind (spec_DrawCountAssignments code) (fun x7 => M.bind (impl_CountAssignments x7) (fun x8 => M.bind (spec_CountAssignments x7) (fun x9 => M.bind (impl_IsSingular x7) (fun x10 => M.bind (spec_IsSingular x7) (fun x11 => M.bind (M.ite (x3.2 != x4.2) (M.ret true) (M.bind (laws_likeInts x3.1 x4.1) (fun x13 => M.ret (!x13)))) (fun x12 => M.ite (((((((x12 || (x5.2 != x6.2)) || (x5.1 != x6.1)) || (x8.2 != x9.2)) || (x8.1 != x9.1)) || (x10.2 != x11.2)) || (!(x10.1 == x11.1))) || ((x10.2 == 0) && (!(x10.1 == (x8.1 != 1))))) (M.ret false) (M.ite (x5.2 != 0) (M.ret true) (M.bind (M.bind (M.sub x2 1 (x2.length : Int)) (fun x24 => M.bind (M.idx x2 0) (fun x25 => M.bind (M.app ([] : List (List Int)) x24) (fun l1 => M.bind (M.app l1 [x25]) (fun l2 => M.ret l2))))) (fun (s1 : (List (List Int))) => M.bind (impl_PermanentOf s1) (fun x26 => M.ite (((x26.2 != 0) || (x26.1 != x5.1)) || (!((x5.1 == (-1000000000000000)) == (x3.2 == 4)))) (M.ret false) (M.bind (M.loop (fun (s2 : Int × Int) => M.ite ((x3.2 == 0) && (decide (s2.2 < (x3.1.length : Int)))) (M.bind (M.idx x2 s2.2) (fun x31 => M.bind (M.idx x3.1 s2.2) (fun x32 => M.bind (M.idx x31 x32) (fun x33 => M.ite (x33 == (-1000000000000000)) (M.ret (.inr (.inr false))) (M.bind (M.idx x2 s2.2) (fun x34 => M.bind (M.idx x3.1 s2.2) (fun x35 => M.bind (M.idx x34 x35) (fun x36 => M.ret (.inl ((w64 (s2.1 + x36)), (w64 (s2.2 + 1)))))))))))) (M.ret (.inr (.inl (s2.1, s2.2))))) (0, 0)) (fun x29 => M.cont x29 (fun s3 => M.ret ((x3.2 != 0) || (s3.1 == x5.1))) (fun r => M.ret r))))))))))))))))))))

end Go.Proofs.Ytipdgiljgbjjkaa
