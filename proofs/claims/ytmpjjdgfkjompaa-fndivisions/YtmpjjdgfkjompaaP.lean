/-
  Plain programs: what each Go function that the law reaches computes, on lists and integers.
  Conditions: None beyond the given statement.
-/
import Derived.Test.YtmpjjdgfkjompaaM
namespace Go.Proofs.Ytmpjjdgfkjompaa
open Go
structure TRatio where
  Num : Int
  Den : Int
structure TCorner where
  At : TRatio
  Times : Int
structure TL01source where
  code : List Int
  at_ : Int
  seed : Int
structure TBoundserror where
  x : Int
  y : Int
  signed : Bool
  code : Int
structure TErroraddressstring where
  msg : ByteArray
  addr : Int
def spec_l01In (n_ : Int) (low : Int) (high : Int) : M Bool :=
  M.ret ((decide (low ≤ n_)) && (decide (n_ ≤ high)))

def impl_within (n_ : Int) (low : Int) (high : Int) : M Bool :=
  M.ret ((decide (low ≤ n_)) && (decide (n_ ≤ high)))

def spec_l02Bottom (m_ : Int) (n_ : Int) : M ((List (List Int))) :=
  M.bind (M.forI 0 m_ (fun s => s) (fun _ => (fun (s1 : (List (List Int))) => M.bind (M.forI 0 n_ (fun s => s) (fun _ => (fun (s2 : (List Int)) => M.bind (M.app s2 ([(-1000000000000000)] : List Int)) (fun l1 => M.ret (.inl l1)))) ([] : List Int)) (fun x2 => M.bind (M.app s1 [x2]) (fun l2 => M.ret (.inl l2))))) ([] : List (List Int))) (fun x1 => M.ret x1)

def laws_big (code : List Int) : M Bool :=
  M.ret (decide (4096 < (code.length : Int)))

def spec_l01From (code : List Int) : M TL01source :=
  M.bind (M.loop (fun (s1 : Int × Int) => M.ite ((decide (s1.2 < (code.length : Int))) && (decide (s1.2 < 64))) (M.bind (M.idx code s1.2) (fun x3 => M.ret (.inl (((w64 ((w64 (s1.1 * 67)) + (w64 (x3)))).tmod 2147483647), (w64 (s1.2 + 1)))))) (M.ret (.inr (s1.1, s1.2)))) (61403, 0)) (fun x1 => M.ret (⟨code, 0, x1.1⟩ : TL01source))

def spec_l01Next (s_ : TL01source) (n_ : Int) : M (Int × TL01source) :=
  M.ite (decide (n_ ≤ 1)) (M.ret (0, s_)) (M.bind (M.ite (decide (s_.at_ < (s_.code.length : Int))) (M.bind (M.idx s_.code s_.at_) (fun x1 => M.ite ((decide (n_ ≤ 256)) && (((w64 (s_.at_ + 1)).tmod 2) == 0)) (M.bind (M.idx s_.code (w64 ((w64 (s_.at_ + 1)) - 1))) (fun x3 => M.ret ((w64 (x3)), (w64 (s_.at_ + 1))))) (M.ret ((w64 ((w64 (((w64 ((w64 (s_.seed * 48271)) + 59)).tmod 2147483647).tdiv 31)) + (w64 (x1)))), (w64 (s_.at_ + 1)))))) (M.ret ((w64 (((w64 ((w64 (s_.seed * 48271)) + 59)).tmod 2147483647).tdiv 31)), s_.at_))) (fun (s1 : Int × Int) => M.bind (M.guard (n_ != 0)) (fun _ => M.ret ((s1.1.tmod n_), (⟨s_.code, s1.2, ((w64 ((w64 (s_.seed * 48271)) + 59)).tmod 2147483647)⟩ : TL01source)))))

def spec_l01Pick (s_ : TL01source) (list : List Int) : M (Int × TL01source × (List Int)) :=
  M.bind (spec_l01Next s_ (list.length : Int)) (fun x1 => M.bind (M.idx list x1.1) (fun x2 => M.ret (x2, (⟨s_.code, x1.2.at_, x1.2.seed⟩ : TL01source), list)))

def laws_likeInts (a_ : List Int) (b : List Int) : M Bool :=
  M.ite ((a_.length : Int) != (b.length : Int)) (M.ret false) (M.bind (M.forI 0 (a_.length : Int) (fun s => .inl s) (fun i1 => (fun (_ : Unit) => M.bind (M.idx a_ i1) (fun x2 => M.bind (M.idx b i1) (fun x3 => M.ite (x2 != x3) (M.ret (.inr (.inr false))) (M.ret (.inl ())))))) ()) (fun x1 => M.cont x1 (fun _ => M.ret true) (fun r => M.ret r)))

def spec_l01Finite (a_ : Int) : M Bool :=
  M.bind (spec_l01In a_ (-1000000) 1000000) (fun x1 => M.ret x1)

def spec_IsValue (a_ : Int) : M Bool :=
  M.bind (M.ite (a_ == (-1000000000000000)) (M.ret true) (M.bind (spec_l01Finite a_) (fun x2 => M.ret x2))) (fun x1 => M.ret x1)

def spec_l01All (list : List Int) (finite : Bool) : M Bool :=
  M.bind (M.forI 0 (list.length : Int) (fun s => .inl s) (fun i1 => (fun (_ : Unit) => M.bind (M.idx list i1) (fun x2 => M.bind (spec_IsValue x2) (fun x3 => M.bind (M.ite (!x3) (M.ret true) (M.bind (M.ite finite (M.bind (M.idx list i1) (fun x6 => M.ret (x6 == (-1000000000000000)))) (M.ret false)) (fun x5 => M.ret x5))) (fun x4 => M.ite x4 (M.ret (.inr (.inr false))) (M.ret (.inl ()))))))) ()) (fun x1 => M.cont x1 (fun _ => M.ret true) (fun r => M.ret r))

def impl_isFinite (n_ : Int) : M Bool :=
  M.bind (impl_within n_ (-1000000) 1000000) (fun x1 => M.ret x1)

def impl_IsValue (a_ : Int) : M Bool :=
  M.bind (M.ite (a_ == (-1000000000000000)) (M.ret true) (M.bind (impl_isFinite a_) (fun x2 => M.ret x2))) (fun x1 => M.ret x1)

def impl_areValues_1 (n_ : Int) : M Bool :=
  M.bind (impl_IsValue n_) (fun x1 => M.ret (!x1))

def slices_IndexFunc_int_F_impl_areValues_1 (s_ : List Int) : M Int :=
  M.bind (M.forI 0 (s_.length : Int) (fun s => .inl s) (fun i1 => (fun (_ : Unit) => M.bind (M.idx s_ i1) (fun x2 => M.bind (impl_areValues_1 x2) (fun x3 => M.ite x3 (M.ret (.inr (.inr i1))) (M.ret (.inl ())))))) ()) (fun x1 => M.cont x1 (fun _ => M.ret (-1)) (fun r => M.ret r))

def slices_ContainsFunc_int_F_impl_areValues_1 (s_ : List Int) : M Bool :=
  M.bind (slices_IndexFunc_int_F_impl_areValues_1 s_) (fun x1 => M.ret (decide (0 ≤ x1)))

def impl_areValues (list : List Int) : M Bool :=
  M.bind (slices_ContainsFunc_int_F_impl_areValues_1 list) (fun x1 => M.ret (!x1))

def spec_l01DrawValue (s_ : TL01source) : M (Int × TL01source) :=
  M.bind (spec_l01Next s_ 24) (fun x1 => M.bind (M.ite (x1.1 == 0) (M.ret (x1.1 == 0)) (M.ite (x1.1 == 1) (M.ret (x1.1 == 1)) (M.ret (x1.1 == 2)))) (fun (s1 : Bool) => M.ite s1 (M.ret ((-1000000000000000), (⟨s_.code, x1.2.at_, x1.2.seed⟩ : TL01source))) (M.ite (x1.1 == 3) (M.bind (spec_l01Pick (⟨s_.code, x1.2.at_, x1.2.seed⟩ : TL01source) ([1000000, 1000001, (-1000000), (-1000001), (-999999999999999), (-1000000000000001), 9223372036854775807] : List Int)) (fun x2 => M.ret (x2.1, (⟨s_.code, x2.2.1.at_, x2.2.1.seed⟩ : TL01source)))) (M.ite (x1.1 == 4) (M.bind (spec_l01Next (⟨s_.code, x1.2.at_, x1.2.seed⟩ : TL01source) 2000) (fun x3 => M.ret ((w64 ((w64 (x3.1 - 1000)) * 701)), (⟨s_.code, x3.2.at_, x3.2.seed⟩ : TL01source)))) (M.bind (spec_l01Next (⟨s_.code, x1.2.at_, x1.2.seed⟩ : TL01source) 41) (fun x4 => M.ret ((w64 (x4.1 - 20)), (⟨s_.code, x4.2.at_, x4.2.seed⟩ : TL01source))))))))

def impl_times (a_ : Int) (b : Int) : M Int :=
  M.ite ((a_ == (-1000000000000000)) || (b == (-1000000000000000))) (M.ret (-1000000000000000)) (M.ret (w64 (a_ + b)))

def spec_l02Vector (x_ : List Int) : M Bool :=
  M.bind (spec_l01In (x_.length : Int) 1 10) (fun x1 => M.bind (M.ite x1 (M.bind (spec_l01All x_ false) (fun x3 => M.ret x3)) (M.ret false)) (fun x2 => M.ret x2))

def spec_IsMatrix (a_ : List (List Int)) : M Bool :=
  M.ite ((decide ((a_.length : Int) < 1)) || (decide (10 < (a_.length : Int)))) (M.ret false) (M.bind (M.forI 0 (a_.length : Int) (fun s => .inl s) (fun i1 => (fun (_ : Unit) => M.bind (M.idx a_ i1) (fun x3 => M.bind (spec_l02Vector x3) (fun x4 => M.bind (M.ite (!x4) (M.ret true) (M.bind (M.idx a_ i1) (fun x6 => M.bind (M.idx a_ 0) (fun x7 => M.ret ((x6.length : Int) != (x7.length : Int)))))) (fun x5 => M.ite x5 (M.ret (.inr (.inr false))) (M.ret (.inl ()))))))) ()) (fun x2 => M.cont x2 (fun _ => M.ret true) (fun r => M.ret r)))

def spec_l08Fits (a_ : List (List Int)) : M Bool :=
  M.bind (M.loop (fun (s1 : Int) => M.bind (M.idx a_ 0) (fun x2 => M.ite (decide (s1 < (x2.length : Int))) (M.bind (M.forI 0 (a_.length : Int) (fun s => s) (fun i1 => (fun (s3 : Bool) => M.bind (M.ite s3 (M.ret true) (M.bind (M.idx a_ i1) (fun x5 => M.bind (M.idx x5 s1) (fun x6 => M.ret (x6 != (-1000000000000000)))))) (fun x4 => M.ret (.inl x4)))) false) (fun x3 => M.ite (!x3) (M.ret (.inr (.inr false))) (M.ret (.inl (w64 (s1 + 1)))))) (M.ret (.inr (.inl s1))))) 0) (fun x1 => M.cont x1 (fun _ => M.ret true) (fun r => M.ret r))

def spec_l08Sub (a_ : List (List Int)) (b : List Int) : M ((List Int)) :=
  M.bind (M.loop (fun (s1 : (List Int) × Int) => M.bind (M.idx a_ 0) (fun x2 => M.ite (decide (s1.2 < (x2.length : Int))) (M.bind (M.forI 0 (a_.length : Int) (fun s => s) (fun i1 => (fun (s2 : Int × Bool) => M.bind (M.bind (M.idx a_ i1) (fun x4 => M.bind (M.idx x4 s1.2) (fun x5 => M.ite (x5 == (-1000000000000000)) (M.ret (s2.1, s2.2)) (M.bind (M.idx b i1) (fun x6 => M.bind (M.ite (x6 != (-1000000000000000)) (M.bind (M.idx b i1) (fun x7 => M.bind (M.idx a_ i1) (fun x8 => M.bind (M.idx x8 s1.2) (fun x9 => M.ret (w64 (x7 - x9)))))) (M.ret (-1000000000000000))) (fun (s4 : Int) => M.ite ((!s2.2) || (decide (s4 < s2.1))) (M.ret (s4, true)) (M.ret (s2.1, s2.2)))))))) (fun (s3 : Int × Bool) => M.ret (.inl (s3.1, s3.2))))) (0, false)) (fun x3 => M.bind (M.app s1.1 ([x3.1] : List Int)) (fun l1 => M.ret (.inl (l1, (w64 (s1.2 + 1))))))) (M.ret (.inr (s1.1, s1.2))))) (([] : List Int), 0)) (fun x1 => M.ret x1.1)

def impl_IsMatrix_1 (row : List Int) (z0 : List (List Int)) : M Bool :=
  M.bind (M.idx z0 0) (fun x1 => M.bind (M.ite ((row.length : Int) != (x1.length : Int)) (M.ret true) (M.bind (impl_areValues row) (fun x3 => M.ret (!x3)))) (fun x2 => M.ret x2))

def slices_IndexFunc_row_F_impl_IsMatrix_1 (s_ : List (List Int)) (f0 : List (List Int)) : M Int :=
  M.bind (M.forI 0 (s_.length : Int) (fun s => .inl s) (fun i1 => (fun (_ : Unit) => M.bind (M.idx s_ i1) (fun x2 => M.bind (impl_IsMatrix_1 x2 f0) (fun x3 => M.ite x3 (M.ret (.inr (.inr i1))) (M.ret (.inl ())))))) ()) (fun x1 => M.cont x1 (fun _ => M.ret (-1)) (fun r => M.ret r))

def slices_ContainsFunc_row_F_impl_IsMatrix_1 (s_ : List (List Int)) (f0 : List (List Int)) : M Bool :=
  M.bind (slices_IndexFunc_row_F_impl_IsMatrix_1 s_ f0) (fun x1 => M.ret (decide (0 ≤ x1)))

def impl_IsMatrix (a_ : List (List Int)) : M Bool :=
  M.bind (impl_within (a_.length : Int) 1 10) (fun x1 => M.bind (M.ite (!x1) (M.ret true) (M.bind (M.idx a_ 0) (fun x3 => M.bind (impl_within (x3.length : Int) 1 10) (fun x4 => M.ret (!x4))))) (fun x2 => M.ite x2 (M.ret false) (M.bind (slices_ContainsFunc_row_F_impl_IsMatrix_1 a_ a_) (fun x5 => M.ret (!x5)))))

def impl_isVector (x_ : List Int) : M Bool :=
  M.bind (impl_within (x_.length : Int) 1 10) (fun x1 => M.bind (M.ite x1 (M.bind (impl_areValues x_) (fun x3 => M.ret x3)) (M.ret false)) (fun x2 => M.ret x2))

def impl_greatestSub (a_ : List (List Int)) (b : List Int) : M ((List Int) × Int) :=
  M.bind (impl_IsMatrix a_) (fun x1 => M.bind (M.ite (!x1) (M.ret true) (M.bind (impl_isVector b) (fun x3 => M.ret (!x3)))) (fun x2 => M.ite x2 (M.ret (([] : List Int), 1)) (M.ite ((a_.length : Int) != (b.length : Int)) (M.ret (([] : List Int), 5)) (M.bind (M.idx a_ 0) (fun x4 => M.bind (M.make (x4.length : Int) 0) (fun l1 => M.bind (M.forI 0 (l1.length : Int) (fun s => .inl s) (fun i1 => (fun (s1 : (List Int)) => M.bind (M.forI 0 (a_.length : Int) (fun s => s) (fun i2 => (fun (s3 : (List Int) × Bool) => M.bind (M.bind (M.idx a_ i2) (fun x7 => M.bind (M.idx x7 i1) (fun x8 => M.ite (x8 == (-1000000000000000)) (M.ret (s3.1, s3.2)) (M.bind (M.idx b i2) (fun x9 => M.bind (M.idx x7 i1) (fun x10 => M.bind (impl_times x9 (w64 (0 - x10))) (fun x11 => M.bind (M.ite (!s3.2) (M.ret true) (M.bind (M.idx s3.1 i1) (fun x13 => M.ret (decide (x11 < x13))))) (fun x12 => M.ite x12 (M.bind (M.idx s3.1 i1) (fun x14 => M.bind (M.upd s3.1 i1 x11) (fun l2 => M.ret (l2, true)))) (M.ret (s3.1, s3.2)))))))))) (fun (s4 : (List Int) × Bool) => M.ret (.inl (s4.1, s4.2))))) (s1, false)) (fun x6 => M.ite (!x6.2) (M.ret (.inr (.inr (([] : List Int), 5)))) (M.ret (.inl x6.1))))) l1) (fun x5 => M.cont x5 (fun s2 => M.ret (s2, 0)) (fun r => M.ret r))))))))

def spec_l02Turn (a_ : List (List Int)) : M ((List (List Int))) :=
  M.bind (M.idx a_ 0) (fun x1 => M.bind (spec_l02Bottom (x1.length : Int) (a_.length : Int)) (fun x2 => M.bind (M.forI 0 (a_.length : Int) (fun s => s) (fun i1 => (fun (s1 : (List (List Int))) => M.bind (M.loop (fun (s2 : (List (List Int)) × Int) => M.bind (M.idx a_ i1) (fun x5 => M.ite (decide (s2.2 < (x5.length : Int))) (M.bind (M.idx s2.1 s2.2) (fun x6 => M.bind (M.idx a_ i1) (fun x7 => M.bind (M.idx x7 s2.2) (fun x8 => M.bind (M.idx x6 i1) (fun x9 => M.bind (M.upd x6 i1 x8) (fun l1 => M.ret (.inl ((s2.1.set s2.2.toNat l1), (w64 (s2.2 + 1)))))))))) (M.ret (.inr (s2.1, s2.2))))) (s1, 0)) (fun x4 => M.ret (.inl x4.1)))) x2) (fun x3 => M.ret x3)))

def spec_l03Result (a_ : List (List Int)) : M ((List (List Int)) × Int) :=
  M.bind (spec_IsMatrix a_) (fun x1 => M.ite (!x1) (M.ret (([] : List (List Int)), 3)) (M.ret (a_, 0)))

def spec_LeftQuotient (a_ : List (List Int)) (b : List (List Int)) : M ((List (List Int)) × Int) :=
  M.bind (spec_IsMatrix a_) (fun x1 => M.bind (M.ite (!x1) (M.ret true) (M.bind (spec_IsMatrix b) (fun x3 => M.ret (!x3)))) (fun x2 => M.ite x2 (M.ret (([] : List (List Int)), 1)) (M.bind (M.ite ((a_.length : Int) != (b.length : Int)) (M.ret true) (M.bind (spec_l08Fits a_) (fun x5 => M.ret (!x5)))) (fun x4 => M.ite x4 (M.ret (([] : List (List Int)), 5)) (M.bind (spec_l02Turn b) (fun x6 => M.bind (M.forI 0 (x6.length : Int) (fun s => s) (fun i1 => (fun (s1 : (List (List Int))) => M.bind (M.idx x6 i1) (fun x8 => M.bind (spec_l08Sub a_ x8) (fun x9 => M.bind (M.app s1 [x9]) (fun l1 => M.ret (.inl l1)))))) ([] : List (List Int))) (fun x7 => M.bind (spec_l02Turn x7) (fun x10 => M.bind (spec_l03Result x10) (fun x11 => M.ret (x11.1, x11.2))))))))))

def impl_transposed_1 (i : Int) (j : Int) (z0 : List (List Int)) : M Int :=
  M.bind (M.idx z0 j) (fun x1 => M.bind (M.idx x1 i) (fun x2 => M.ret x2))

def impl_matrixBy_F_impl_transposed_1 (m_ : Int) (n_ : Int) (entry0 : List (List Int)) : M ((List (List Int))) :=
  M.bind (M.make m_ []) (fun l1 => M.bind (M.forI 0 (l1.length : Int) (fun s => s) (fun i1 => (fun (s1 : (List (List Int))) => M.bind (M.make n_ 0) (fun l2 => M.bind (M.idx s1 i1) (fun x2 => M.bind (M.upd s1 i1 l2) (fun l3 => M.bind (M.idx l3 i1) (fun x3 => M.bind (M.forI 0 (x3.length : Int) (fun s => s) (fun i2 => (fun (s2 : (List (List Int))) => M.bind (M.idx s2 i1) (fun x5 => M.bind (impl_transposed_1 i1 i2 entry0) (fun x6 => M.bind (M.idx x5 i2) (fun x7 => M.bind (M.upd x5 i2 x6) (fun l4 => M.ret (.inl (s2.set i1.toNat l4)))))))) l3) (fun x4 => M.ret (.inl x4)))))))) l1) (fun x1 => M.ret x1))

def impl_transposed (a_ : List (List Int)) : M ((List (List Int))) :=
  M.bind (M.idx a_ 0) (fun x1 => M.bind (impl_matrixBy_F_impl_transposed_1 (x1.length : Int) (a_.length : Int) a_) (fun x2 => M.ret x2))

def impl_leftQuotient (a_ : List (List Int)) (b : List (List Int)) : M ((List (List Int)) × Int) :=
  M.bind (impl_IsMatrix a_) (fun x1 => M.bind (M.ite (!x1) (M.ret true) (M.bind (impl_IsMatrix b) (fun x3 => M.ret (!x3)))) (fun x2 => M.ite x2 (M.ret (([] : List (List Int)), 1)) (M.ite ((a_.length : Int) != (b.length : Int)) (M.ret (([] : List (List Int)), 5)) (M.bind (impl_transposed b) (fun x4 => M.bind (M.forI 0 (x4.length : Int) (fun s => .inl s) (fun i1 => (fun (s1 : (List (List Int))) => M.bind (M.idx x4 i1) (fun x6 => M.bind (impl_greatestSub a_ x6) (fun x7 => M.ite (x7.2 != 0) (M.ret (.inr (.inr (([] : List (List Int)), x7.2)))) (M.bind (M.app s1 [x7.1]) (fun l1 => M.ret (.inl l1))))))) []) (fun x5 => M.cont x5 (fun s2 => M.bind (impl_transposed s2) (fun x8 => M.ret (x8, 0))) (fun r => M.ret r)))))))

def impl_checkedMatrix_1 (row : List Int) : M Bool :=
  M.bind (impl_areValues row) (fun x1 => M.ret (!x1))

def slices_IndexFunc_row_F_impl_checkedMatrix_1 (s_ : List (List Int)) : M Int :=
  M.bind (M.forI 0 (s_.length : Int) (fun s => .inl s) (fun i1 => (fun (_ : Unit) => M.bind (M.idx s_ i1) (fun x2 => M.bind (impl_checkedMatrix_1 x2) (fun x3 => M.ite x3 (M.ret (.inr (.inr i1))) (M.ret (.inl ())))))) ()) (fun x1 => M.cont x1 (fun _ => M.ret (-1)) (fun r => M.ret r))

def slices_ContainsFunc_row_F_impl_checkedMatrix_1 (s_ : List (List Int)) : M Bool :=
  M.bind (slices_IndexFunc_row_F_impl_checkedMatrix_1 s_) (fun x1 => M.ret (decide (0 ≤ x1)))

def impl_checkedMatrix (a_ : List (List Int)) : M ((List (List Int)) × Int) :=
  M.bind (slices_ContainsFunc_row_F_impl_checkedMatrix_1 a_) (fun x1 => M.ite x1 (M.ret (([] : List (List Int)), 3)) (M.ret (a_, 0)))

def impl_LeftQuotient (a_ : List (List Int)) (b : List (List Int)) : M ((List (List Int)) × Int) :=
  M.bind (impl_leftQuotient a_ b) (fun x1 => M.ite (x1.2 != 0) (M.ret (([] : List (List Int)), x1.2)) (M.bind (impl_checkedMatrix x1.1) (fun x2 => M.ret (x2.1, x2.2))))

def spec_RightQuotient (a_ : List (List Int)) (b : List (List Int)) : M ((List (List Int)) × Int) :=
  M.bind (spec_IsMatrix a_) (fun x1 => M.bind (M.ite (!x1) (M.ret true) (M.bind (spec_IsMatrix b) (fun x3 => M.ret (!x3)))) (fun x2 => M.ite x2 (M.ret (([] : List (List Int)), 1)) (M.bind (M.bind (M.idx a_ 0) (fun x4 => M.bind (M.idx b 0) (fun x5 => M.ite ((x4.length : Int) != (x5.length : Int)) (M.ret true) (M.bind (spec_l02Turn a_) (fun x6 => M.bind (spec_l08Fits x6) (fun x7 => M.ret (!x7))))))) (fun (s1 : Bool) => M.ite s1 (M.ret (([] : List (List Int)), 5)) (M.bind (spec_l02Turn a_) (fun x8 => M.bind (M.forI 0 (b.length : Int) (fun s => s) (fun i1 => (fun (s2 : (List (List Int))) => M.bind (M.idx b i1) (fun x10 => M.bind (spec_l08Sub x8 x10) (fun x11 => M.bind (M.app s2 [x11]) (fun l1 => M.ret (.inl l1)))))) ([] : List (List Int))) (fun x9 => M.bind (spec_l03Result x9) (fun x12 => M.ret (x12.1, x12.2)))))))))

def impl_RightQuotient (a_ : List (List Int)) (b : List (List Int)) : M ((List (List Int)) × Int) :=
  M.bind (impl_IsMatrix a_) (fun x1 => M.bind (M.ite (!x1) (M.ret true) (M.bind (impl_IsMatrix b) (fun x3 => M.ret (!x3)))) (fun x2 => M.ite x2 (M.ret (([] : List (List Int)), 1)) (M.bind (impl_transposed a_) (fun x4 => M.bind (impl_transposed b) (fun x5 => M.bind (impl_leftQuotient x4 x5) (fun x6 => M.ite (x6.2 != 0) (M.ret (([] : List (List Int)), x6.2)) (M.bind (impl_transposed x6.1) (fun x7 => M.bind (impl_checkedMatrix x7) (fun x8 => M.ret (x8.1, x8.2))))))))))

def spec_l02DrawSize (s_ : TL01source) (m_ : Int) (n_ : Int) : M ((List (List Int)) × TL01source) :=
  M.bind (spec_l02Bottom m_ n_) (fun x1 => M.bind (spec_l01Pick s_ ([2, 3, 5] : List Int)) (fun x2 => M.bind (M.forI 0 m_ (fun s => s) (fun i1 => (fun (s1 : Int × Int × (List (List Int))) => M.bind (M.forI 0 n_ (fun s => s) (fun i2 => (fun (s2 : Int × Int × (List (List Int))) => M.bind (spec_l01Next (⟨s_.code, s2.1, s2.2.1⟩ : TL01source) x2.1) (fun x5 => M.bind (M.ite (decide (0 < x5.1)) (M.bind (M.idx s2.2.2 i1) (fun x6 => M.bind (spec_l01Next (⟨s_.code, x5.2.at_, x5.2.seed⟩ : TL01source) 26) (fun x7 => M.bind (M.idx x6 i2) (fun x8 => M.bind (M.upd x6 i2 (w64 (x7.1 - 10))) (fun l1 => M.ret (x7.2.at_, x7.2.seed, (s2.2.2.set i1.toNat l1))))))) (M.ret (x5.2.at_, x5.2.seed, s2.2.2))) (fun (s3 : Int × Int × (List (List Int))) => M.ret (.inl (s3.1, s3.2.1, s3.2.2)))))) (s1.1, s1.2.1, s1.2.2)) (fun x4 => M.ret (.inl (x4.1, x4.2.1, x4.2.2))))) (x2.2.1.at_, x2.2.1.seed, x1)) (fun x3 => M.bind (spec_l01Next (⟨s_.code, x3.1, x3.2.1⟩ : TL01source) 60) (fun x9 => M.ite (x9.1 == 0) (M.bind (M.idx x3.2.2 0) (fun x10 => M.bind (spec_l01DrawValue (⟨s_.code, x9.2.at_, x9.2.seed⟩ : TL01source)) (fun x11 => M.bind (M.idx x10 0) (fun x12 => M.bind (M.upd x10 0 x11.1) (fun l2 => M.ret ((x3.2.2.set 0 l2), (⟨s_.code, x11.2.at_, x11.2.seed⟩ : TL01source))))))) (M.ite (x9.1 == 1) (M.bind (M.app x3.2.2 [([] : List Int)]) (fun l3 => M.ret (l3, (⟨s_.code, x9.2.at_, x9.2.seed⟩ : TL01source)))) (M.ite (x9.1 == 2) (M.ret (([] : List (List Int)), (⟨s_.code, x9.2.at_, x9.2.seed⟩ : TL01source))) (M.ret (x3.2.2, (⟨s_.code, x9.2.at_, x9.2.seed⟩ : TL01source)))))))))

def spec_l02Draw (s_ : TL01source) : M ((List (List Int)) × TL01source) :=
  M.bind (spec_l01Next s_ 4) (fun x1 => M.bind (spec_l01Next (⟨s_.code, x1.2.at_, x1.2.seed⟩ : TL01source) 4) (fun x2 => M.bind (spec_l02DrawSize (⟨s_.code, x2.2.at_, x2.2.seed⟩ : TL01source) (w64 (1 + x1.1)) (w64 (1 + x2.1))) (fun x3 => M.ret (x3.1, (⟨s_.code, x3.2.at_, x3.2.seed⟩ : TL01source)))))

def spec_DrawLeftQuotient (code : List Int) : M ((List (List Int)) × (List (List Int))) :=
  M.bind (spec_l01From code) (fun x1 => M.bind (spec_l02Draw x1) (fun x2 => M.bind (spec_l01Next (⟨x1.code, x2.2.at_, x2.2.seed⟩ : TL01source) 12) (fun x3 => M.bind (M.ite (x3.1 == 0) (M.ret true) (M.bind (spec_IsMatrix x2.1) (fun x5 => M.ret (!x5)))) (fun x4 => M.ite x4 (M.bind (spec_l02Draw (⟨x1.code, x3.2.at_, x3.2.seed⟩ : TL01source)) (fun x6 => M.ret (x2.1, x6.1))) (M.bind (spec_l01Next (⟨x1.code, x3.2.at_, x3.2.seed⟩ : TL01source) 4) (fun x7 => M.bind (spec_l02DrawSize (⟨x1.code, x7.2.at_, x7.2.seed⟩ : TL01source) (x2.1.length : Int) (w64 (1 + x7.1))) (fun x8 => M.ret (x2.1, x8.1))))))))

def spec_DrawRightQuotient (code : List Int) : M ((List (List Int)) × (List (List Int))) :=
  M.bind (spec_l01From code) (fun x1 => M.bind (spec_l02Draw x1) (fun x2 => M.bind (spec_l01Next (⟨x1.code, x2.2.at_, x2.2.seed⟩ : TL01source) 12) (fun x3 => M.bind (M.ite (x3.1 == 0) (M.ret true) (M.bind (spec_IsMatrix x2.1) (fun x5 => M.ret (!x5)))) (fun x4 => M.ite x4 (M.bind (spec_l02Draw (⟨x1.code, x3.2.at_, x3.2.seed⟩ : TL01source)) (fun x6 => M.ret (x2.1, x6.1))) (M.bind (M.idx x2.1 0) (fun x7 => M.bind (spec_l01Next (⟨x1.code, x3.2.at_, x3.2.seed⟩ : TL01source) 4) (fun x8 => M.bind (spec_l02DrawSize (⟨x1.code, x8.2.at_, x8.2.seed⟩ : TL01source) (w64 (1 + x8.1)) (x7.length : Int)) (fun x9 => M.ret (x2.1, x9.1)))))))))

def laws_likeTables9 (a_ : List (List Int)) (b : List (List Int)) : M Bool :=
  M.ite ((a_.length : Int) != (b.length : Int)) (M.ret false) (M.bind (M.forI 0 (a_.length : Int) (fun s => .inl s) (fun i1 => (fun (_ : Unit) => M.bind (M.idx a_ i1) (fun x2 => M.bind (M.idx b i1) (fun x3 => M.bind (laws_likeInts x2 x3) (fun x4 => M.ite (!x4) (M.ret (.inr (.inr false))) (M.ret (.inl ()))))))) ()) (fun x1 => M.cont x1 (fun _ => M.ret true) (fun r => M.ret r)))

def impl_multiply_1 (i : Int) (j : Int) (z0 : List (List Int)) (z1 : List (List Int)) : M Int :=
  M.bind (M.idx z0 i) (fun x1 => M.bind (M.forI 0 (x1.length : Int) (fun s => s) (fun i1 => (fun (s1 : Int) => M.bind (M.idx x1 i1) (fun x3 => M.bind (M.idx z1 i1) (fun x4 => M.bind (M.idx x4 j) (fun x5 => M.bind (impl_times x3 x5) (fun x6 => M.ret (.inl (mx s1 x6)))))))) (-1000000000000000)) (fun x2 => M.ret x2))

def impl_matrixBy_F_impl_multiply_1 (m_ : Int) (n_ : Int) (entry0 : List (List Int)) (entry1 : List (List Int)) : M ((List (List Int))) :=
  M.bind (M.make m_ []) (fun l1 => M.bind (M.forI 0 (l1.length : Int) (fun s => s) (fun i1 => (fun (s1 : (List (List Int))) => M.bind (M.make n_ 0) (fun l2 => M.bind (M.idx s1 i1) (fun x2 => M.bind (M.upd s1 i1 l2) (fun l3 => M.bind (M.idx l3 i1) (fun x3 => M.bind (M.forI 0 (x3.length : Int) (fun s => s) (fun i2 => (fun (s2 : (List (List Int))) => M.bind (M.idx s2 i1) (fun x5 => M.bind (impl_multiply_1 i1 i2 entry0 entry1) (fun x6 => M.bind (M.idx x5 i2) (fun x7 => M.bind (M.upd x5 i2 x6) (fun l4 => M.ret (.inl (s2.set i1.toNat l4)))))))) l3) (fun x4 => M.ret (.inl x4)))))))) l1) (fun x1 => M.ret x1))

def impl_multiply (a_ : List (List Int)) (b : List (List Int)) : M ((List (List Int))) :=
  M.bind (M.idx b 0) (fun x1 => M.bind (impl_matrixBy_F_impl_multiply_1 (a_.length : Int) (x1.length : Int) a_ b) (fun x2 => M.ret x2))

def impl_MultiplyMatrices (a_ : List (List Int)) (b : List (List Int)) : M ((List (List Int)) × Int) :=
  M.bind (impl_IsMatrix a_) (fun x1 => M.bind (M.ite (!x1) (M.ret true) (M.bind (impl_IsMatrix b) (fun x3 => M.ret (!x3)))) (fun x2 => M.ite x2 (M.ret (([] : List (List Int)), 1)) (M.bind (M.idx a_ 0) (fun x4 => M.ite ((x4.length : Int) != (b.length : Int)) (M.ret (([] : List (List Int)), 5)) (M.bind (impl_multiply a_ b) (fun x5 => M.bind (impl_checkedMatrix x5) (fun x6 => M.ret (x6.1, x6.2))))))))

def laws_below9 (a_ : List Int) (b : List Int) : M Bool :=
  M.ite ((a_.length : Int) != (b.length : Int)) (M.ret false) (M.bind (M.forI 0 (a_.length : Int) (fun s => .inl s) (fun i1 => (fun (_ : Unit) => M.bind (M.idx a_ i1) (fun x2 => M.bind (M.idx b i1) (fun x3 => M.ite (decide (x3 < x2)) (M.ret (.inr (.inr false))) (M.ret (.inl ())))))) ()) (fun x1 => M.cont x1 (fun _ => M.ret true) (fun r => M.ret r)))

def laws_FnDivisions (code : List Int) : M Bool :=
  M.bind (laws_big code) (fun x1 => M.ite x1 (M.ret true) (M.bind (spec_DrawLeftQuotient code) (fun x2 => M.bind (impl_LeftQuotient x2.1 x2.2) (fun x3 => M.bind (spec_LeftQuotient x2.1 x2.2) (fun x4 => M.bind (spec_DrawRightQuotient code) (fun x5 => M.bind (impl_RightQuotient x5.1 x5.2) (fun x6 => M.bind (spec_RightQuotient x5.1 x5.2) (fun x7 => M.bind (M.ite (x3.2 != x4.2) (M.ret true) (M.bind (laws_likeTables9 x3.1 x4.1) (fun x9 => M.ret (!x9)))) (fun x8 => M.bind (M.ite (x8 || (x6.2 != x7.2)) (M.ret true) (M.bind (laws_likeTables9 x6.1 x7.1) (fun x12 => M.ret (!x12)))) (fun x11 => M.ite x11 (M.ret false) (M.ite (x6.2 == 0) (M.bind (impl_MultiplyMatrices x6.1 x5.1) (fun x13 => M.bind (impl_RightQuotient x5.1 x13.1) (fun x14 => M.ite ((x13.2 == 0) && (x14.2 == 0)) (M.bind (impl_MultiplyMatrices x14.1 x5.1) (fun x16 => M.bind (M.ite (x16.2 != 0) (M.ret true) (M.bind (laws_likeTables9 x16.1 x13.1) (fun x18 => M.ret (!x18)))) (fun x17 => M.ite x17 (M.ret false) (M.ite (x3.2 != 0) (M.ret true) (M.bind (impl_MultiplyMatrices x2.1 x3.1) (fun x19 => M.ite (x19.2 != 0) (M.ret (x19.2 == 3)) (M.bind (M.forI 0 (x19.1.length : Int) (fun s => .inl s) (fun i1 => (fun (_ : Unit) => M.bind (M.idx x19.1 i1) (fun x21 => M.bind (M.idx x2.2 i1) (fun x22 => M.bind (laws_below9 x21 x22) (fun x23 => M.ite (!x23) (M.ret (.inr (.inr false))) (M.ret (.inl ()))))))) ()) (fun x20 => M.cont x20 (fun _ => M.bind (impl_LeftQuotient x2.1 x19.1) (fun x24 => M.ite (x24.2 != 0) (M.ret (x24.2 == 3)) (M.bind (impl_MultiplyMatrices x2.1 x24.1) (fun x25 => M.bind (M.ite (x25.2 == 0) (M.bind (laws_likeTables9 x25.1 x19.1) (fun x27 => M.ret x27)) (M.ret false)) (fun x26 => M.ret x26))))) (fun r => M.ret r))))))))) (M.ite (x3.2 != 0) (M.ret true) (M.bind (impl_MultiplyMatrices x2.1 x3.1) (fun x28 => M.ite (x28.2 != 0) (M.ret (x28.2 == 3)) (M.bind (M.forI 0 (x28.1.length : Int) (fun s => .inl s) (fun i2 => (fun (_ : Unit) => M.bind (M.idx x28.1 i2) (fun x30 => M.bind (M.idx x2.2 i2) (fun x31 => M.bind (laws_below9 x30 x31) (fun x32 => M.ite (!x32) (M.ret (.inr (.inr false))) (M.ret (.inl ()))))))) ()) (fun x29 => M.cont x29 (fun _ => M.bind (impl_LeftQuotient x2.1 x28.1) (fun x33 => M.ite (x33.2 != 0) (M.ret (x33.2 == 3)) (M.bind (impl_MultiplyMatrices x2.1 x33.1) (fun x34 => M.bind (M.ite (x34.2 == 0) (M.bind (laws_likeTables9 x34.1 x28.1) (fun x36 => M.ret x36)) (M.ret false)) (fun x35 => M.ret x35))))) (fun r => M.ret r))))))))) (M.ite (x3.2 != 0) (M.ret true) (M.bind (impl_MultiplyMatrices x2.1 x3.1) (fun x37 => M.ite (x37.2 != 0) (M.ret (x37.2 == 3)) (M.bind (M.forI 0 (x37.1.length : Int) (fun s => .inl s) (fun i3 => (fun (_ : Unit) => M.bind (M.idx x37.1 i3) (fun x39 => M.bind (M.idx x2.2 i3) (fun x40 => M.bind (laws_below9 x39 x40) (fun x41 => M.ite (!x41) (M.ret (.inr (.inr false))) (M.ret (.inl ()))))))) ()) (fun x38 => M.cont x38 (fun _ => M.bind (impl_LeftQuotient x2.1 x37.1) (fun x42 => M.ite (x42.2 != 0) (M.ret (x42.2 == 3)) (M.bind (impl_MultiplyMatrices x2.1 x42.1) (fun x43 => M.bind (M.ite (x43.2 == 0) (M.bind (laws_likeTables9 x43.1 x37.1) (fun x45 => M.ret x45)) (M.ret false)) (fun x44 => M.ret x44))))) (fun r => M.ret r)))))))))))))))))

end Go.Proofs.Ytmpjjdgfkjompaa
