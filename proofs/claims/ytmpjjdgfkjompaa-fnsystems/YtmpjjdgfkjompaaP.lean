/-
  Plain programs: what each Go function that the law reaches computes, on lists and integers.
  Conditions: None beyond the given statement.
-/
import Derived.Test.YtmpjjdgfkjompaaM
namespace Go.Proofs.Ytmpjjdgfkjompaa
open Go
structure TRatio where
  Num : Int
  Den : Int
structure TCorner where
  At : TRatio
  Times : Int
structure TL01source where
  code : List Int
  at_ : Int
  seed : Int
structure TBoundserror where
  x : Int
  y : Int
  signed : Bool
  code : Int
structure TErroraddressstring where
  msg : ByteArray
  addr : Int
def spec_l01In (n_ : Int) (low : Int) (high : Int) : M Bool :=
  M.ret ((decide (low ≤ n_)) && (decide (n_ ≤ high)))

def impl_within (n_ : Int) (low : Int) (high : Int) : M Bool :=
  M.ret ((decide (low ≤ n_)) && (decide (n_ ≤ high)))

def laws_eqInt64S (a_ : List Int) (b : List Int) : M Bool :=
  M.ite ((a_.length : Int) != (b.length : Int)) (M.ret false) (M.bind (M.forI 0 (a_.length : Int) (fun s => .inl s) (fun i1 => (fun (_ : Unit) => M.bind (M.idx a_ i1) (fun x2 => M.bind (M.idx b i1) (fun x3 => M.ite (x2 != x3) (M.ret (.inr (.inr false))) (M.ret (.inl ())))))) ()) (fun x1 => M.cont x1 (fun _ => M.ret true) (fun r => M.ret r)))

def spec_l02Bottom (m_ : Int) (n_ : Int) : M ((List (List Int))) :=
  M.bind (M.forI 0 m_ (fun s => s) (fun _ => (fun (s1 : (List (List Int))) => M.bind (M.forI 0 n_ (fun s => s) (fun _ => (fun (s2 : (List Int)) => M.bind (M.app s2 ([(-1000000000000000)] : List Int)) (fun l1 => M.ret (.inl l1)))) ([] : List Int)) (fun x2 => M.bind (M.app s1 [x2]) (fun l2 => M.ret (.inl l2))))) ([] : List (List Int))) (fun x1 => M.ret x1)

def spec_l01Times (a_ : Int) (b : Int) : M Int :=
  M.ite ((a_ == (-1000000000000000)) || (b == (-1000000000000000))) (M.ret (-1000000000000000)) (M.ret (w64 (a_ + b)))

def spec_l01Same (a_ : List Int) (b : List Int) : M Bool :=
  M.ite ((a_.length : Int) != (b.length : Int)) (M.ret false) (M.bind (M.forI 0 (a_.length : Int) (fun s => .inl s) (fun i1 => (fun (_ : Unit) => M.bind (M.idx a_ i1) (fun x2 => M.bind (M.idx b i1) (fun x3 => M.ite (x2 != x3) (M.ret (.inr (.inr false))) (M.ret (.inl ())))))) ()) (fun x1 => M.cont x1 (fun _ => M.ret true) (fun r => M.ret r)))

def spec_l01Less (a_ : List Int) (b : List Int) : M Bool :=
  M.bind (M.loop (fun (s1 : Int) => M.ite ((decide (s1 < (a_.length : Int))) && (decide (s1 < (b.length : Int)))) (M.bind (M.idx a_ s1) (fun x3 => M.bind (M.idx b s1) (fun x4 => M.ite (x3 != x4) (M.bind (M.idx a_ s1) (fun x5 => M.bind (M.idx b s1) (fun x6 => M.ret (.inr (.inr (decide (x5 < x6))))))) (M.ret (.inl (w64 (s1 + 1))))))) (M.ret (.inr (.inl s1)))) 0) (fun x1 => M.cont x1 (fun _ => M.ret (decide ((a_.length : Int) < (b.length : Int)))) (fun r => M.ret r))

def cmp_isNaN_i (x_ : Int) : M Bool :=
  M.ret (x_ != x_)

def cmp_Compare_i (x_ : Int) (y_ : Int) : M Int :=
  M.bind (cmp_isNaN_i x_) (fun x1 => M.bind (cmp_isNaN_i y_) (fun x2 => M.ite x1 (M.ite x2 (M.ret 0) (M.ret (-1))) (M.ite x2 (M.ret 1) (M.ite (decide (x_ < y_)) (M.ret (-1)) (M.ite (decide (y_ < x_)) (M.ret 1) (M.ret 0))))))

def laws_big (code : List Int) : M Bool :=
  M.ret (decide (4096 < (code.length : Int)))

def spec_l01From (code : List Int) : M TL01source :=
  M.bind (M.loop (fun (s1 : Int × Int) => M.ite ((decide (s1.2 < (code.length : Int))) && (decide (s1.2 < 64))) (M.bind (M.idx code s1.2) (fun x3 => M.ret (.inl (((w64 ((w64 (s1.1 * 67)) + (w64 (x3)))).tmod 2147483647), (w64 (s1.2 + 1)))))) (M.ret (.inr (s1.1, s1.2)))) (61403, 0)) (fun x1 => M.ret (⟨code, 0, x1.1⟩ : TL01source))

def spec_l01Next (s_ : TL01source) (n_ : Int) : M (Int × TL01source) :=
  M.ite (decide (n_ ≤ 1)) (M.ret (0, s_)) (M.bind (M.ite (decide (s_.at_ < (s_.code.length : Int))) (M.bind (M.idx s_.code s_.at_) (fun x1 => M.ite ((decide (n_ ≤ 256)) && (((w64 (s_.at_ + 1)).tmod 2) == 0)) (M.bind (M.idx s_.code (w64 ((w64 (s_.at_ + 1)) - 1))) (fun x3 => M.ret ((w64 (x3)), (w64 (s_.at_ + 1))))) (M.ret ((w64 ((w64 (((w64 ((w64 (s_.seed * 48271)) + 59)).tmod 2147483647).tdiv 31)) + (w64 (x1)))), (w64 (s_.at_ + 1)))))) (M.ret ((w64 (((w64 ((w64 (s_.seed * 48271)) + 59)).tmod 2147483647).tdiv 31)), s_.at_))) (fun (s1 : Int × Int) => M.bind (M.guard (n_ != 0)) (fun _ => M.ret ((s1.1.tmod n_), (⟨s_.code, s1.2, ((w64 ((w64 (s_.seed * 48271)) + 59)).tmod 2147483647)⟩ : TL01source)))))

def spec_l01Pick (s_ : TL01source) (list : List Int) : M (Int × TL01source × (List Int)) :=
  M.bind (spec_l01Next s_ (list.length : Int)) (fun x1 => M.bind (M.idx list x1.1) (fun x2 => M.ret (x2, (⟨s_.code, x1.2.at_, x1.2.seed⟩ : TL01source), list)))

def laws_likeInts (a_ : List Int) (b : List Int) : M Bool :=
  M.ite ((a_.length : Int) != (b.length : Int)) (M.ret false) (M.bind (M.forI 0 (a_.length : Int) (fun s => .inl s) (fun i1 => (fun (_ : Unit) => M.bind (M.idx a_ i1) (fun x2 => M.bind (M.idx b i1) (fun x3 => M.ite (x2 != x3) (M.ret (.inr (.inr false))) (M.ret (.inl ())))))) ()) (fun x1 => M.cont x1 (fun _ => M.ret true) (fun r => M.ret r)))

def spec_l01Finite (a_ : Int) : M Bool :=
  M.bind (spec_l01In a_ (-1000000) 1000000) (fun x1 => M.ret x1)

def spec_IsValue (a_ : Int) : M Bool :=
  M.bind (M.ite (a_ == (-1000000000000000)) (M.ret true) (M.bind (spec_l01Finite a_) (fun x2 => M.ret x2))) (fun x1 => M.ret x1)

def spec_l01All (list : List Int) (finite : Bool) : M Bool :=
  M.bind (M.forI 0 (list.length : Int) (fun s => .inl s) (fun i1 => (fun (_ : Unit) => M.bind (M.idx list i1) (fun x2 => M.bind (spec_IsValue x2) (fun x3 => M.bind (M.ite (!x3) (M.ret true) (M.bind (M.ite finite (M.bind (M.idx list i1) (fun x6 => M.ret (x6 == (-1000000000000000)))) (M.ret false)) (fun x5 => M.ret x5))) (fun x4 => M.ite x4 (M.ret (.inr (.inr false))) (M.ret (.inl ()))))))) ()) (fun x1 => M.cont x1 (fun _ => M.ret true) (fun r => M.ret r))

def impl_isFinite (n_ : Int) : M Bool :=
  M.bind (impl_within n_ (-1000000) 1000000) (fun x1 => M.ret x1)

def impl_IsValue (a_ : Int) : M Bool :=
  M.bind (M.ite (a_ == (-1000000000000000)) (M.ret true) (M.bind (impl_isFinite a_) (fun x2 => M.ret x2))) (fun x1 => M.ret x1)

def impl_areValues_1 (n_ : Int) : M Bool :=
  M.bind (impl_IsValue n_) (fun x1 => M.ret (!x1))

def slices_IndexFunc_int_F_impl_areValues_1 (s_ : List Int) : M Int :=
  M.bind (M.forI 0 (s_.length : Int) (fun s => .inl s) (fun i1 => (fun (_ : Unit) => M.bind (M.idx s_ i1) (fun x2 => M.bind (impl_areValues_1 x2) (fun x3 => M.ite x3 (M.ret (.inr (.inr i1))) (M.ret (.inl ())))))) ()) (fun x1 => M.cont x1 (fun _ => M.ret (-1)) (fun r => M.ret r))

def slices_ContainsFunc_int_F_impl_areValues_1 (s_ : List Int) : M Bool :=
  M.bind (slices_IndexFunc_int_F_impl_areValues_1 s_) (fun x1 => M.ret (decide (0 ≤ x1)))

def impl_areValues (list : List Int) : M Bool :=
  M.bind (slices_ContainsFunc_int_F_impl_areValues_1 list) (fun x1 => M.ret (!x1))

def spec_l01DrawValue (s_ : TL01source) : M (Int × TL01source) :=
  M.bind (spec_l01Next s_ 24) (fun x1 => M.bind (M.ite (x1.1 == 0) (M.ret (x1.1 == 0)) (M.ite (x1.1 == 1) (M.ret (x1.1 == 1)) (M.ret (x1.1 == 2)))) (fun (s1 : Bool) => M.ite s1 (M.ret ((-1000000000000000), (⟨s_.code, x1.2.at_, x1.2.seed⟩ : TL01source))) (M.ite (x1.1 == 3) (M.bind (spec_l01Pick (⟨s_.code, x1.2.at_, x1.2.seed⟩ : TL01source) ([1000000, 1000001, (-1000000), (-1000001), (-999999999999999), (-1000000000000001), 9223372036854775807] : List Int)) (fun x2 => M.ret (x2.1, (⟨s_.code, x2.2.1.at_, x2.2.1.seed⟩ : TL01source)))) (M.ite (x1.1 == 4) (M.bind (spec_l01Next (⟨s_.code, x1.2.at_, x1.2.seed⟩ : TL01source) 2000) (fun x3 => M.ret ((w64 ((w64 (x3.1 - 1000)) * 701)), (⟨s_.code, x3.2.at_, x3.2.seed⟩ : TL01source)))) (M.bind (spec_l01Next (⟨s_.code, x1.2.at_, x1.2.seed⟩ : TL01source) 41) (fun x4 => M.ret ((w64 (x4.1 - 20)), (⟨s_.code, x4.2.at_, x4.2.seed⟩ : TL01source))))))))

def impl_times (a_ : Int) (b : Int) : M Int :=
  M.ite ((a_ == (-1000000000000000)) || (b == (-1000000000000000))) (M.ret (-1000000000000000)) (M.ret (w64 (a_ + b)))

def impl_checkedVector (x_ : List Int) : M ((List Int) × Int) :=
  M.bind (impl_areValues x_) (fun x1 => M.ite (!x1) (M.ret (([] : List Int), 3)) (M.ret (x_, 0)))

def impl_checkedValue (n_ : Int) : M (Int × Int) :=
  M.bind (impl_IsValue n_) (fun x1 => M.ite (!x1) (M.ret (0, 3)) (M.ret (n_, 0)))

def spec_l02Vector (x_ : List Int) : M Bool :=
  M.bind (spec_l01In (x_.length : Int) 1 10) (fun x1 => M.bind (M.ite x1 (M.bind (spec_l01All x_ false) (fun x3 => M.ret x3)) (M.ret false)) (fun x2 => M.ret x2))

def spec_IsMatrix (a_ : List (List Int)) : M Bool :=
  M.ite ((decide ((a_.length : Int) < 1)) || (decide (10 < (a_.length : Int)))) (M.ret false) (M.bind (M.forI 0 (a_.length : Int) (fun s => .inl s) (fun i1 => (fun (_ : Unit) => M.bind (M.idx a_ i1) (fun x3 => M.bind (spec_l02Vector x3) (fun x4 => M.bind (M.ite (!x4) (M.ret true) (M.bind (M.idx a_ i1) (fun x6 => M.bind (M.idx a_ 0) (fun x7 => M.ret ((x6.length : Int) != (x7.length : Int)))))) (fun x5 => M.ite x5 (M.ret (.inr (.inr false))) (M.ret (.inl ()))))))) ()) (fun x2 => M.cont x2 (fun _ => M.ret true) (fun r => M.ret r)))

def spec_l08Fits (a_ : List (List Int)) : M Bool :=
  M.bind (M.loop (fun (s1 : Int) => M.bind (M.idx a_ 0) (fun x2 => M.ite (decide (s1 < (x2.length : Int))) (M.bind (M.forI 0 (a_.length : Int) (fun s => s) (fun i1 => (fun (s3 : Bool) => M.bind (M.ite s3 (M.ret true) (M.bind (M.idx a_ i1) (fun x5 => M.bind (M.idx x5 s1) (fun x6 => M.ret (x6 != (-1000000000000000)))))) (fun x4 => M.ret (.inl x4)))) false) (fun x3 => M.ite (!x3) (M.ret (.inr (.inr false))) (M.ret (.inl (w64 (s1 + 1)))))) (M.ret (.inr (.inl s1))))) 0) (fun x1 => M.cont x1 (fun _ => M.ret true) (fun r => M.ret r))

def spec_l08Code (a_ : List (List Int)) (b : List Int) : M Int :=
  M.bind (spec_IsMatrix a_) (fun x1 => M.bind (M.ite (!x1) (M.ret true) (M.bind (spec_l02Vector b) (fun x3 => M.ret (!x3)))) (fun x2 => M.ite x2 (M.ret 1) (M.bind (M.ite ((a_.length : Int) != (b.length : Int)) (M.ret true) (M.bind (spec_l08Fits a_) (fun x5 => M.ret (!x5)))) (fun x4 => M.ite x4 (M.ret 5) (M.ret 0)))))

def spec_l08Sub (a_ : List (List Int)) (b : List Int) : M ((List Int)) :=
  M.bind (M.loop (fun (s1 : (List Int) × Int) => M.bind (M.idx a_ 0) (fun x2 => M.ite (decide (s1.2 < (x2.length : Int))) (M.bind (M.forI 0 (a_.length : Int) (fun s => s) (fun i1 => (fun (s2 : Int × Bool) => M.bind (M.bind (M.idx a_ i1) (fun x4 => M.bind (M.idx x4 s1.2) (fun x5 => M.ite (x5 == (-1000000000000000)) (M.ret (s2.1, s2.2)) (M.bind (M.idx b i1) (fun x6 => M.bind (M.ite (x6 != (-1000000000000000)) (M.bind (M.idx b i1) (fun x7 => M.bind (M.idx a_ i1) (fun x8 => M.bind (M.idx x8 s1.2) (fun x9 => M.ret (w64 (x7 - x9)))))) (M.ret (-1000000000000000))) (fun (s4 : Int) => M.ite ((!s2.2) || (decide (s4 < s2.1))) (M.ret (s4, true)) (M.ret (s2.1, s2.2)))))))) (fun (s3 : Int × Bool) => M.ret (.inl (s3.1, s3.2))))) (0, false)) (fun x3 => M.bind (M.app s1.1 ([x3.1] : List Int)) (fun l1 => M.ret (.inl (l1, (w64 (s1.2 + 1))))))) (M.ret (.inr (s1.1, s1.2))))) (([] : List Int), 0)) (fun x1 => M.ret x1.1)

def spec_l08Result (x_ : List Int) : M ((List Int) × Int) :=
  M.bind (spec_l02Vector x_) (fun x1 => M.ite (!x1) (M.ret (([] : List Int), 3)) (M.ret (x_, 0)))

def impl_IsMatrix_1 (row : List Int) (z0 : List (List Int)) : M Bool :=
  M.bind (M.idx z0 0) (fun x1 => M.bind (M.ite ((row.length : Int) != (x1.length : Int)) (M.ret true) (M.bind (impl_areValues row) (fun x3 => M.ret (!x3)))) (fun x2 => M.ret x2))

def slices_IndexFunc_row_F_impl_IsMatrix_1 (s_ : List (List Int)) (f0 : List (List Int)) : M Int :=
  M.bind (M.forI 0 (s_.length : Int) (fun s => .inl s) (fun i1 => (fun (_ : Unit) => M.bind (M.idx s_ i1) (fun x2 => M.bind (impl_IsMatrix_1 x2 f0) (fun x3 => M.ite x3 (M.ret (.inr (.inr i1))) (M.ret (.inl ())))))) ()) (fun x1 => M.cont x1 (fun _ => M.ret (-1)) (fun r => M.ret r))

def slices_ContainsFunc_row_F_impl_IsMatrix_1 (s_ : List (List Int)) (f0 : List (List Int)) : M Bool :=
  M.bind (slices_IndexFunc_row_F_impl_IsMatrix_1 s_ f0) (fun x1 => M.ret (decide (0 ≤ x1)))

def impl_IsMatrix (a_ : List (List Int)) : M Bool :=
  M.bind (impl_within (a_.length : Int) 1 10) (fun x1 => M.bind (M.ite (!x1) (M.ret true) (M.bind (M.idx a_ 0) (fun x3 => M.bind (impl_within (x3.length : Int) 1 10) (fun x4 => M.ret (!x4))))) (fun x2 => M.ite x2 (M.ret false) (M.bind (slices_ContainsFunc_row_F_impl_IsMatrix_1 a_ a_) (fun x5 => M.ret (!x5)))))

def impl_isVector (x_ : List Int) : M Bool :=
  M.bind (impl_within (x_.length : Int) 1 10) (fun x1 => M.bind (M.ite x1 (M.bind (impl_areValues x_) (fun x3 => M.ret x3)) (M.ret false)) (fun x2 => M.ret x2))

def impl_greatestSub (a_ : List (List Int)) (b : List Int) : M ((List Int) × Int) :=
  M.bind (impl_IsMatrix a_) (fun x1 => M.bind (M.ite (!x1) (M.ret true) (M.bind (impl_isVector b) (fun x3 => M.ret (!x3)))) (fun x2 => M.ite x2 (M.ret (([] : List Int), 1)) (M.ite ((a_.length : Int) != (b.length : Int)) (M.ret (([] : List Int), 5)) (M.bind (M.idx a_ 0) (fun x4 => M.bind (M.make (x4.length : Int) 0) (fun l1 => M.bind (M.forI 0 (l1.length : Int) (fun s => .inl s) (fun i1 => (fun (s1 : (List Int)) => M.bind (M.forI 0 (a_.length : Int) (fun s => s) (fun i2 => (fun (s3 : (List Int) × Bool) => M.bind (M.bind (M.idx a_ i2) (fun x7 => M.bind (M.idx x7 i1) (fun x8 => M.ite (x8 == (-1000000000000000)) (M.ret (s3.1, s3.2)) (M.bind (M.idx b i2) (fun x9 => M.bind (M.idx x7 i1) (fun x10 => M.bind (impl_times x9 (w64 (0 - x10))) (fun x11 => M.bind (M.ite (!s3.2) (M.ret true) (M.bind (M.idx s3.1 i1) (fun x13 => M.ret (decide (x11 < x13))))) (fun x12 => M.ite x12 (M.bind (M.idx s3.1 i1) (fun x14 => M.bind (M.upd s3.1 i1 x11) (fun l2 => M.ret (l2, true)))) (M.ret (s3.1, s3.2)))))))))) (fun (s4 : (List Int) × Bool) => M.ret (.inl (s4.1, s4.2))))) (s1, false)) (fun x6 => M.ite (!x6.2) (M.ret (.inr (.inr (([] : List Int), 5)))) (M.ret (.inl x6.1))))) l1) (fun x5 => M.cont x5 (fun s2 => M.ret (s2, 0)) (fun r => M.ret r))))))))

def impl_GreatestSub (a_ : List (List Int)) (b : List Int) : M ((List Int) × Int) :=
  M.bind (impl_greatestSub a_ b) (fun x1 => M.ite (x1.2 != 0) (M.ret (([] : List Int), x1.2)) (M.bind (impl_checkedVector x1.1) (fun x2 => M.ret (x2.1, x2.2))))

def spec_l02Apply (a_ : List (List Int)) (x_ : List Int) : M ((List Int)) :=
  M.bind (M.forI 0 (a_.length : Int) (fun s => s) (fun i1 => (fun (s1 : (List Int)) => M.bind (M.forI 0 (x_.length : Int) (fun s => s) (fun i2 => (fun (s2 : Int) => M.bind (M.idx a_ i1) (fun x3 => M.bind (M.idx x3 i2) (fun x4 => M.bind (M.idx x_ i2) (fun x5 => M.bind (spec_l01Times x4 x5) (fun x6 => M.ret (.inl (mx s2 x6)))))))) (-1000000000000000)) (fun x2 => M.bind (M.app s1 ([x2] : List Int)) (fun l1 => M.ret (.inl l1))))) ([] : List Int)) (fun x1 => M.ret x1)

def impl_timesVector (a_ : List (List Int)) (x_ : List Int) : M ((List Int)) :=
  M.bind (M.make (a_.length : Int) 0) (fun l1 => M.bind (M.forI 0 (a_.length : Int) (fun s => s) (fun i1 => (fun (s1 : (List Int)) => M.bind (M.idx a_ i1) (fun x2 => M.bind (M.idx s1 i1) (fun x3 => M.bind (M.upd s1 i1 (-1000000000000000)) (fun l2 => M.bind (M.forI 0 (x2.length : Int) (fun s => s) (fun i2 => (fun (s2 : (List Int)) => M.bind (M.idx x2 i2) (fun x5 => M.bind (M.idx s2 i1) (fun x6 => M.bind (M.idx x_ i2) (fun x7 => M.bind (impl_times x5 x7) (fun x8 => M.bind (M.idx s2 i1) (fun x9 => M.bind (M.upd s2 i1 (mx x6 x8)) (fun l3 => M.ret (.inl l3))))))))) l2) (fun x4 => M.ret (.inl x4))))))) l1) (fun x1 => M.ret x1))

def impl_LargestGap (a_ : List (List Int)) (b : List Int) : M (Int × Int) :=
  M.bind (impl_greatestSub a_ b) (fun x1 => M.ite (x1.2 != 0) (M.ret (0, x1.2)) (M.bind (impl_timesVector a_ x1.1) (fun x2 => M.bind (M.forI 0 (x2.length : Int) (fun s => .inl s) (fun i1 => (fun (s1 : Int) => M.bind (M.idx x2 i1) (fun x4 => M.bind (M.idx b i1) (fun x5 => M.ite (x5 == (-1000000000000000)) (M.ret (.inl s1)) (M.ite (x4 == (-1000000000000000)) (M.ret (.inr (.inr (0, 4)))) (M.bind (M.idx b i1) (fun x6 => M.ret (.inl (mx s1 (w64 (x6 - x4))))))))))) 0) (fun x3 => M.cont x3 (fun s2 => M.bind (impl_checkedValue s2) (fun x7 => M.ret (x7.1, x7.2))) (fun r => M.ret r)))))

def impl_BestBelow (a_ : List (List Int)) (b : List Int) : M ((List Int) × Int) :=
  M.bind (impl_greatestSub a_ b) (fun x1 => M.ite (x1.2 != 0) (M.ret (([] : List Int), x1.2)) (M.bind (impl_timesVector a_ x1.1) (fun x2 => M.bind (impl_checkedVector x2) (fun x3 => M.ret (x3.1, x3.2)))))

def spec_SolveSystem (a_ : List (List Int)) (b : List Int) : M ((List Int) × Int) :=
  M.bind (spec_l08Code a_ b) (fun x1 => M.ite (x1 != 0) (M.ret (([] : List Int), x1)) (M.bind (spec_l08Sub a_ b) (fun x2 => M.bind (spec_l02Apply a_ x2) (fun x3 => M.bind (spec_l01Same x3 b) (fun x4 => M.ite (!x4) (M.ret (([] : List Int), 4)) (M.bind (spec_l08Result x2) (fun x5 => M.ret (x5.1, x5.2))))))))

def slices_Equal_int (p0 : List Int) (p1 : List Int) : M Bool :=
  M.ite ((p0.length : Int) != (p1.length : Int)) (M.ret false) (M.bind (M.forI 0 (p0.length : Int) (fun s => .inl s) (fun i1 => (fun (_ : Unit) => M.bind (M.idx p0 i1) (fun x2 => M.bind (M.idx p1 i1) (fun x3 => M.ite (x2 != x3) (M.ret (.inr (.inr false))) (M.ret (.inl ())))))) ()) (fun x1 => M.cont x1 (fun _ => M.ret true) (fun r => M.ret r)))

def impl_SolveSystem (a_ : List (List Int)) (b : List Int) : M ((List Int) × Int) :=
  M.bind (impl_greatestSub a_ b) (fun x1 => M.ite (x1.2 != 0) (M.ret (([] : List Int), x1.2)) (M.bind (impl_timesVector a_ x1.1) (fun x2 => M.bind (slices_Equal_int x2 b) (fun x3 => M.ite (!x3) (M.ret (([] : List Int), 4)) (M.bind (impl_checkedVector x1.1) (fun x4 => M.ret (x4.1, x4.2)))))))

def spec_l08Covers (a_ : List (List Int)) (b : List Int) (x_ : List Int) (columns : List Int) : M Bool :=
  M.bind (M.forI 0 (b.length : Int) (fun s => .inl s) (fun i1 => (fun (_ : Unit) => M.bind (M.idx b i1) (fun x2 => M.bind (M.forI 0 (columns.length : Int) (fun s => s) (fun i2 => (fun (s3 : Bool) => M.bind (M.ite s3 (M.ret true) (M.bind (M.idx a_ i1) (fun x5 => M.bind (M.idx columns i2) (fun x6 => M.bind (M.idx x5 x6) (fun x7 => M.bind (M.idx columns i2) (fun x8 => M.bind (M.idx x_ x8) (fun x9 => M.bind (spec_l01Times x7 x9) (fun x10 => M.bind (M.idx b i1) (fun x11 => M.ret (x10 == x11)))))))))) (fun x4 => M.ret (.inl x4)))) (x2 == (-1000000000000000))) (fun x3 => M.ite (!x3) (M.ret (.inr (.inr false))) (M.ret (.inl ())))))) ()) (fun x1 => M.cont x1 (fun _ => M.ret true) (fun r => M.ret r))

def spec_LeastCover (a_ : List (List Int)) (b : List Int) : M ((List Int) × Int) :=
  M.bind (spec_l08Code a_ b) (fun x1 => M.ite (x1 != 0) (M.ret (([] : List Int), x1)) (M.bind (spec_l08Sub a_ b) (fun x2 => M.bind (spec_l02Apply a_ x2) (fun x3 => M.bind (spec_l01Same x3 b) (fun x4 => M.ite (!x4) (M.ret (([] : List Int), 4)) (M.bind (M.loop (fun (s1 : (List Int) × Bool × Int) => M.bind (M.guard (decide (0 ≤ (IntKind.u64.wrap ((x2.length : Int)))))) (fun _ => M.ite (decide (s1.2.2 < (ishl .i64 1 (IntKind.u64.wrap ((x2.length : Int)))))) (M.bind (M.forI 0 (x2.length : Int) (fun s => s) (fun i1 => (fun (s2 : (List Int)) => M.bind (M.guard (decide (0 ≤ (IntKind.u64.wrap (i1))))) (fun _ => M.bind (M.ite ((ibit .and .i64 (ishr .i64 s1.2.2 (IntKind.u64.wrap (i1))) 1) == 1) (M.bind (M.app s2 ([i1] : List Int)) (fun l1 => M.ret l1)) (M.ret s2)) (fun (s3 : (List Int)) => M.ret (.inl s3))))) ([] : List Int)) (fun x6 => M.bind (M.ite ((!s1.2.1) || (decide ((x6.length : Int) < (s1.1.length : Int)))) (M.ret true) (M.bind (M.ite ((x6.length : Int) == (s1.1.length : Int)) (M.bind (spec_l01Less x6 s1.1) (fun x10 => M.ret x10)) (M.ret false)) (fun x9 => M.ret x9))) (fun x8 => M.bind (M.ite x8 (M.bind (spec_l08Covers a_ b x2 x6) (fun x12 => M.ret x12)) (M.ret false)) (fun x11 => M.bind (M.ite x11 (M.ret (x6, true)) (M.ret (s1.1, s1.2.1))) (fun (s4 : (List Int) × Bool) => M.ret (.inl (s4.1, s4.2, (w64 (s1.2.2 + 1))))))))) (M.ret (.inr (s1.1, s1.2.1, s1.2.2))))) (([] : List Int), false, 0)) (fun x5 => M.ret (x5.1, 0))))))))

def impl_coversVector_1 (j : Int) (z0 : List (List Int)) (z1 : Int) (z2 : List Int) (z3 : Int) : M Bool :=
  M.bind (M.idx z0 z1) (fun x1 => M.bind (M.idx x1 j) (fun x2 => M.bind (M.idx z2 j) (fun x3 => M.bind (impl_times x2 x3) (fun x4 => M.ret (x4 == z3)))))

def slices_IndexFunc_int_F_impl_coversVector_1 (s_ : List Int) (f0 : List (List Int)) (f1 : Int) (f2 : List Int) (f3 : Int) : M Int :=
  M.bind (M.forI 0 (s_.length : Int) (fun s => .inl s) (fun i1 => (fun (_ : Unit) => M.bind (M.idx s_ i1) (fun x2 => M.bind (impl_coversVector_1 x2 f0 f1 f2 f3) (fun x3 => M.ite x3 (M.ret (.inr (.inr i1))) (M.ret (.inl ())))))) ()) (fun x1 => M.cont x1 (fun _ => M.ret (-1)) (fun r => M.ret r))

def slices_ContainsFunc_int_F_impl_coversVector_1 (s_ : List Int) (f0 : List (List Int)) (f1 : Int) (f2 : List Int) (f3 : Int) : M Bool :=
  M.bind (slices_IndexFunc_int_F_impl_coversVector_1 s_ f0 f1 f2 f3) (fun x1 => M.ret (decide (0 ≤ x1)))

def impl_coversVector (a_ : List (List Int)) (b : List Int) (x_ : List Int) (columns : List Int) : M Bool :=
  M.bind (M.forI 0 (b.length : Int) (fun s => .inl s) (fun i1 => (fun (_ : Unit) => M.bind (M.idx b i1) (fun x2 => M.bind (M.ite (x2 != (-1000000000000000)) (M.bind (slices_ContainsFunc_int_F_impl_coversVector_1 columns a_ i1 x_ x2) (fun x4 => M.ret (!x4))) (M.ret false)) (fun x3 => M.ite x3 (M.ret (.inr (.inr false))) (M.ret (.inl ())))))) ()) (fun x1 => M.cont x1 (fun _ => M.ret true) (fun r => M.ret r))

def slices_Compare_int (p0 : List Int) (p1 : List Int) : M Int :=
  M.bind (M.forI 0 (p0.length : Int) (fun s => .inl s) (fun i1 => (fun (_ : Unit) => M.bind (M.idx p0 i1) (fun x2 => M.ite (decide ((p1.length : Int) ≤ i1)) (M.ret (.inr (.inr 1))) (M.bind (M.idx p1 i1) (fun x3 => M.bind (cmp_Compare_i x2 x3) (fun x4 => M.ite (x4 != 0) (M.ret (.inr (.inr x4))) (M.ret (.inl ())))))))) ()) (fun x1 => M.cont x1 (fun _ => M.ite (decide ((p0.length : Int) < (p1.length : Int))) (M.ret (-1)) (M.ret 0)) (fun r => M.ret r))

def impl_leastCover (a_ : List (List Int)) (b : List Int) (x_ : List Int) : M ((List Int)) :=
  M.bind (M.guard (decide (0 ≤ (x_.length : Int)))) (fun _ => M.bind (M.forI 0 (ishl .i64 1 (x_.length : Int)) (fun s => s) (fun i1 => (fun (s1 : (List Int) × Bool) => M.bind (M.bind (M.forI 0 (x_.length : Int) (fun s => s) (fun i2 => (fun (s3 : (List Int)) => M.bind (M.guard (decide (0 ≤ i2))) (fun _ => M.bind (M.ite ((ibit .and .i64 (ishr .i64 i1 i2) 1) == 1) (M.bind (M.app s3 ([i2] : List Int)) (fun l1 => M.ret l1)) (M.ret s3)) (fun (s4 : (List Int)) => M.ret (.inl s4))))) []) (fun x2 => M.bind (impl_coversVector a_ b x_ x2) (fun x3 => M.ite (!x3) (M.ret (s1.1, s1.2)) (M.bind (M.ite ((!s1.2) || (decide ((x2.length : Int) < (s1.1.length : Int)))) (M.ret true) (M.bind (M.ite ((x2.length : Int) == (s1.1.length : Int)) (M.bind (slices_Compare_int x2 s1.1) (fun x7 => M.ret (decide (x7 < 0)))) (M.ret false)) (fun x6 => M.ret x6))) (fun x5 => M.ite x5 (M.ret (x2, true)) (M.ret (s1.1, s1.2))))))) (fun (s2 : (List Int) × Bool) => M.ret (.inl (s2.1, s2.2))))) ([], false)) (fun x1 => M.ret x1.1))

def impl_LeastCover (a_ : List (List Int)) (b : List Int) : M ((List Int) × Int) :=
  M.bind (impl_greatestSub a_ b) (fun x1 => M.ite (x1.2 != 0) (M.ret (([] : List Int), x1.2)) (M.bind (impl_timesVector a_ x1.1) (fun x2 => M.bind (slices_Equal_int x2 b) (fun x3 => M.ite (!x3) (M.ret (([] : List Int), 4)) (M.bind (impl_leastCover a_ b x1.1) (fun x4 => M.ret (x4, 0)))))))

def spec_l02DrawSize (s_ : TL01source) (m_ : Int) (n_ : Int) : M ((List (List Int)) × TL01source) :=
  M.bind (spec_l02Bottom m_ n_) (fun x1 => M.bind (spec_l01Pick s_ ([2, 3, 5] : List Int)) (fun x2 => M.bind (M.forI 0 m_ (fun s => s) (fun i1 => (fun (s1 : Int × Int × (List (List Int))) => M.bind (M.forI 0 n_ (fun s => s) (fun i2 => (fun (s2 : Int × Int × (List (List Int))) => M.bind (spec_l01Next (⟨s_.code, s2.1, s2.2.1⟩ : TL01source) x2.1) (fun x5 => M.bind (M.ite (decide (0 < x5.1)) (M.bind (M.idx s2.2.2 i1) (fun x6 => M.bind (spec_l01Next (⟨s_.code, x5.2.at_, x5.2.seed⟩ : TL01source) 26) (fun x7 => M.bind (M.idx x6 i2) (fun x8 => M.bind (M.upd x6 i2 (w64 (x7.1 - 10))) (fun l1 => M.ret (x7.2.at_, x7.2.seed, (s2.2.2.set i1.toNat l1))))))) (M.ret (x5.2.at_, x5.2.seed, s2.2.2))) (fun (s3 : Int × Int × (List (List Int))) => M.ret (.inl (s3.1, s3.2.1, s3.2.2)))))) (s1.1, s1.2.1, s1.2.2)) (fun x4 => M.ret (.inl (x4.1, x4.2.1, x4.2.2))))) (x2.2.1.at_, x2.2.1.seed, x1)) (fun x3 => M.bind (spec_l01Next (⟨s_.code, x3.1, x3.2.1⟩ : TL01source) 60) (fun x9 => M.ite (x9.1 == 0) (M.bind (M.idx x3.2.2 0) (fun x10 => M.bind (spec_l01DrawValue (⟨s_.code, x9.2.at_, x9.2.seed⟩ : TL01source)) (fun x11 => M.bind (M.idx x10 0) (fun x12 => M.bind (M.upd x10 0 x11.1) (fun l2 => M.ret ((x3.2.2.set 0 l2), (⟨s_.code, x11.2.at_, x11.2.seed⟩ : TL01source))))))) (M.ite (x9.1 == 1) (M.bind (M.app x3.2.2 [([] : List Int)]) (fun l3 => M.ret (l3, (⟨s_.code, x9.2.at_, x9.2.seed⟩ : TL01source)))) (M.ite (x9.1 == 2) (M.ret (([] : List (List Int)), (⟨s_.code, x9.2.at_, x9.2.seed⟩ : TL01source))) (M.ret (x3.2.2, (⟨s_.code, x9.2.at_, x9.2.seed⟩ : TL01source)))))))))

def spec_l02Draw (s_ : TL01source) : M ((List (List Int)) × TL01source) :=
  M.bind (spec_l01Next s_ 4) (fun x1 => M.bind (spec_l01Next (⟨s_.code, x1.2.at_, x1.2.seed⟩ : TL01source) 4) (fun x2 => M.bind (spec_l02DrawSize (⟨s_.code, x2.2.at_, x2.2.seed⟩ : TL01source) (w64 (1 + x1.1)) (w64 (1 + x2.1))) (fun x3 => M.ret (x3.1, (⟨s_.code, x3.2.at_, x3.2.seed⟩ : TL01source)))))

def spec_TimesVector (a_ : List (List Int)) (x_ : List Int) : M ((List Int) × Int) :=
  M.bind (spec_IsMatrix a_) (fun x1 => M.bind (M.ite (!x1) (M.ret true) (M.bind (spec_l02Vector x_) (fun x3 => M.ret (!x3)))) (fun x2 => M.ite x2 (M.ret (([] : List Int), 1)) (M.bind (M.idx a_ 0) (fun x4 => M.ite ((x4.length : Int) != (x_.length : Int)) (M.ret (([] : List Int), 5)) (M.bind (spec_l02Apply a_ x_) (fun x5 => M.bind (spec_l02Vector x5) (fun x6 => M.ite (!x6) (M.ret (([] : List Int), 3)) (M.ret (x5, 0)))))))))

def spec_l02DrawVector (s_ : TL01source) (n_ : Int) : M ((List Int) × TL01source) :=
  M.bind (M.loop (fun (s1 : Int × Int × Int × (List Int)) => M.ite (decide (0 < s1.2.2.1)) (M.bind (spec_l01Next (⟨s_.code, s1.1, s1.2.1⟩ : TL01source) 31) (fun x2 => M.bind (M.app s1.2.2.2 ([(w64 (x2.1 - 15))] : List Int)) (fun l1 => M.bind (spec_l01Next (⟨s_.code, x2.2.at_, x2.2.seed⟩ : TL01source) 8) (fun x3 => M.bind (M.ite (x3.1 == 0) (M.bind (M.idx l1 (w64 ((l1.length : Int) - 1))) (fun x4 => M.bind (M.upd l1 (w64 ((l1.length : Int) - 1)) (-1000000000000000)) (fun l2 => M.ret l2))) (M.ret l1)) (fun (s2 : (List Int)) => M.ret (.inl (x3.2.at_, x3.2.seed, (w64 (s1.2.2.1 - 1)), s2))))))) (M.ret (.inr (s1.1, s1.2.1, s1.2.2.1, s1.2.2.2)))) (s_.at_, s_.seed, n_, ([] : List Int))) (fun x1 => M.bind (spec_l01Next (⟨s_.code, x1.1, x1.2.1⟩ : TL01source) 60) (fun x5 => M.ite (x5.1 == 0) (M.bind (spec_l01DrawValue (⟨s_.code, x5.2.at_, x5.2.seed⟩ : TL01source)) (fun x6 => M.bind (M.app x1.2.2.2 ([x6.1] : List Int)) (fun l3 => M.ret (l3, (⟨s_.code, x6.2.at_, x6.2.seed⟩ : TL01source))))) (M.ite (x5.1 == 1) (M.ret (([] : List Int), (⟨s_.code, x5.2.at_, x5.2.seed⟩ : TL01source))) (M.ret (x1.2.2.2, (⟨s_.code, x5.2.at_, x5.2.seed⟩ : TL01source))))))

def spec_l08Draw (s_ : TL01source) : M ((List (List Int)) × (List Int) × TL01source) :=
  M.bind (spec_l02Draw s_) (fun x1 => M.bind (spec_l01Next (⟨s_.code, x1.2.at_, x1.2.seed⟩ : TL01source) 24) (fun x2 => M.ite (x2.1 == 0) (M.bind (spec_l02DrawVector (⟨s_.code, x2.2.at_, x2.2.seed⟩ : TL01source) (w64 ((x1.1.length : Int) + 1))) (fun x3 => M.ret (x1.1, x3.1, (⟨s_.code, x3.2.at_, x3.2.seed⟩ : TL01source)))) (M.bind (M.bind (spec_IsMatrix x1.1) (fun x4 => M.ite x4 (M.bind (spec_l01Next (⟨s_.code, x2.2.at_, x2.2.seed⟩ : TL01source) 2) (fun x5 => M.ret (x5.2.at_, x5.2.seed, (x5.1 == 0)))) (M.ret (x2.2.at_, x2.2.seed, false)))) (fun (s1 : Int × Int × Bool) => M.ite s1.2.2 (M.bind (M.idx x1.1 0) (fun x6 => M.bind (spec_l02DrawVector (⟨s_.code, s1.1, s1.2.1⟩ : TL01source) (x6.length : Int)) (fun x7 => M.bind (spec_TimesVector x1.1 x7.1) (fun x8 => M.ite (x8.2 == 0) (M.bind (spec_l01Next (⟨s_.code, x7.2.at_, x7.2.seed⟩ : TL01source) 4) (fun x9 => M.bind (M.ite (x9.1 == 0) (M.bind (spec_l01Next (⟨s_.code, x9.2.at_, x9.2.seed⟩ : TL01source) (x8.1.length : Int)) (fun x10 => M.bind (spec_l01Next (⟨s_.code, x10.2.at_, x10.2.seed⟩ : TL01source) 20) (fun x11 => M.bind (M.idx x8.1 x10.1) (fun x12 => M.bind (M.upd x8.1 x10.1 x11.1) (fun l1 => M.ret (l1, x11.2.at_, x11.2.seed)))))) (M.ret (x8.1, x9.2.at_, x9.2.seed))) (fun (s2 : (List Int) × Int × Int) => M.ret (x1.1, s2.1, (⟨s_.code, s2.2.1, s2.2.2⟩ : TL01source))))) (M.bind (spec_l01Next (⟨s_.code, x7.2.at_, x7.2.seed⟩ : TL01source) 40) (fun x13 => M.ite (x13.1 == 0) (M.bind (spec_l01Pick (⟨s_.code, x13.2.at_, x13.2.seed⟩ : TL01source) ([(-1000000), 5] : List Int)) (fun x14 => M.bind (spec_l01Pick (⟨s_.code, x14.2.1.at_, x14.2.1.seed⟩ : TL01source) ([1000000, 1] : List Int)) (fun x15 => M.ret ([([x14.1] : List Int)], ([x15.1] : List Int), (⟨s_.code, x15.2.1.at_, x15.2.1.seed⟩ : TL01source))))) (M.bind (spec_l02DrawVector (⟨s_.code, x13.2.at_, x13.2.seed⟩ : TL01source) (x1.1.length : Int)) (fun x16 => M.ret (x1.1, x16.1, (⟨s_.code, x16.2.at_, x16.2.seed⟩ : TL01source)))))))))) (M.bind (spec_l01Next (⟨s_.code, s1.1, s1.2.1⟩ : TL01source) 40) (fun x17 => M.ite (x17.1 == 0) (M.bind (spec_l01Pick (⟨s_.code, x17.2.at_, x17.2.seed⟩ : TL01source) ([(-1000000), 5] : List Int)) (fun x18 => M.bind (spec_l01Pick (⟨s_.code, x18.2.1.at_, x18.2.1.seed⟩ : TL01source) ([1000000, 1] : List Int)) (fun x19 => M.ret ([([x18.1] : List Int)], ([x19.1] : List Int), (⟨s_.code, x19.2.1.at_, x19.2.1.seed⟩ : TL01source))))) (M.bind (spec_l02DrawVector (⟨s_.code, x17.2.at_, x17.2.seed⟩ : TL01source) (x1.1.length : Int)) (fun x20 => M.ret (x1.1, x20.1, (⟨s_.code, x20.2.at_, x20.2.seed⟩ : TL01source))))))))))

def spec_DrawSolveSystem (code : List Int) : M ((List (List Int)) × (List Int)) :=
  M.bind (spec_l01From code) (fun x1 => M.bind (spec_l08Draw x1) (fun x2 => M.ret (x2.1, x2.2.1)))

def spec_DrawLeastCover (code : List Int) : M ((List (List Int)) × (List Int)) :=
  M.bind (spec_l01From code) (fun x1 => M.bind (spec_l08Draw x1) (fun x2 => M.ret (x2.1, x2.2.1)))

def impl_TimesVector (a_ : List (List Int)) (x_ : List Int) : M ((List Int) × Int) :=
  M.bind (impl_IsMatrix a_) (fun x1 => M.bind (M.ite (!x1) (M.ret true) (M.bind (impl_isVector x_) (fun x3 => M.ret (!x3)))) (fun x2 => M.ite x2 (M.ret (([] : List Int), 1)) (M.bind (M.idx a_ 0) (fun x4 => M.ite ((x4.length : Int) != (x_.length : Int)) (M.ret (([] : List Int), 5)) (M.bind (impl_timesVector a_ x_) (fun x5 => M.bind (impl_checkedVector x5) (fun x6 => M.ret (x6.1, x6.2))))))))

def laws_FnSystems (code : List Int) : M Bool :=
  M.bind (laws_big code) (fun x1 => M.ite x1 (M.ret true) (M.bind (spec_DrawSolveSystem code) (fun x2 => M.bind (impl_SolveSystem x2.1 x2.2) (fun x3 => M.bind (spec_SolveSystem x2.1 x2.2) (fun x4 => M.bind (spec_DrawLeastCover code) (fun x5 => M.bind (impl_LeastCover x5.1 x5.2) (fun x6 => M.bind (spec_LeastCover x5.1 x5.2) (fun x7 => M.bind (M.ite (x3.2 != x4.2) (M.ret true) (M.bind (laws_likeInts x3.1 x4.1) (fun x9 => M.ret (!x9)))) (fun x8 => M.bind (M.ite (x8 || (x6.2 != x7.2)) (M.ret true) (M.bind (laws_likeInts x6.1 x7.1) (fun x12 => M.ret (!x12)))) (fun x11 => M.ite x11 (M.ret false) (M.ite (x3.2 == 0) (M.bind (impl_TimesVector x2.1 x3.1) (fun x13 => M.bind (M.ite (x13.2 != 0) (M.ret true) (M.bind (laws_likeInts x13.1 x2.2) (fun x15 => M.ret (!x15)))) (fun x14 => M.ite x14 (M.ret false) (M.ite (x6.2 != 0) (M.ret true) (M.bind (impl_GreatestSub x5.1 x5.2) (fun x16 => M.bind (M.loop (fun (s1 : Int) => M.ite ((x16.2 == 0) && (decide (s1 < (x6.1.length : Int)))) (M.bind (M.forI 0 (x5.2.length : Int) (fun s => s) (fun i1 => (fun (s3 : Bool) => M.bind (M.idx x5.2 i1) (fun x20 => M.bind (M.forI 0 (x6.1.length : Int) (fun s => s) (fun i2 => (fun (s4 : Bool) => M.bind (M.idx x6.1 i2) (fun x22 => M.bind (M.ite s4 (M.ret true) (M.bind (M.ite (i2 != s1) (M.bind (M.idx x5.1 i1) (fun x25 => M.bind (M.idx x25 x22) (fun x26 => M.ret (x26 != (-1000000000000000))))) (M.ret false)) (fun x24 => M.bind (M.ite x24 (M.bind (M.idx x16.1 x22) (fun x28 => M.ret (x28 != (-1000000000000000)))) (M.ret false)) (fun x27 => M.bind (M.ite x27 (M.bind (M.idx x5.1 i1) (fun x30 => M.bind (M.idx x30 x22) (fun x31 => M.bind (M.idx x16.1 x22) (fun x32 => M.bind (M.idx x5.2 i1) (fun x33 => M.ret ((w64 (x31 + x32)) == x33)))))) (M.ret false)) (fun x29 => M.ret x29))))) (fun x23 => M.ret (.inl x23))))) (x20 == (-1000000000000000))) (fun x21 => M.ret (.inl (s3 && x21)))))) true) (fun x19 => M.ite (!(x19 == (decide (s1 < 0)))) (M.ret (.inr (.inr false))) (M.ret (.inl (w64 (s1 + 1)))))) (M.ret (.inr (.inl s1)))) (-1)) (fun x17 => M.cont x17 (fun _ => M.ret true) (fun r => M.ret r)))))))) (M.ite (x6.2 != 0) (M.ret true) (M.bind (impl_GreatestSub x5.1 x5.2) (fun x35 => M.bind (M.loop (fun (s5 : Int) => M.ite ((x35.2 == 0) && (decide (s5 < (x6.1.length : Int)))) (M.bind (M.forI 0 (x5.2.length : Int) (fun s => s) (fun i3 => (fun (s7 : Bool) => M.bind (M.idx x5.2 i3) (fun x39 => M.bind (M.forI 0 (x6.1.length : Int) (fun s => s) (fun i4 => (fun (s8 : Bool) => M.bind (M.idx x6.1 i4) (fun x41 => M.bind (M.ite s8 (M.ret true) (M.bind (M.ite (i4 != s5) (M.bind (M.idx x5.1 i3) (fun x44 => M.bind (M.idx x44 x41) (fun x45 => M.ret (x45 != (-1000000000000000))))) (M.ret false)) (fun x43 => M.bind (M.ite x43 (M.bind (M.idx x35.1 x41) (fun x47 => M.ret (x47 != (-1000000000000000)))) (M.ret false)) (fun x46 => M.bind (M.ite x46 (M.bind (M.idx x5.1 i3) (fun x49 => M.bind (M.idx x49 x41) (fun x50 => M.bind (M.idx x35.1 x41) (fun x51 => M.bind (M.idx x5.2 i3) (fun x52 => M.ret ((w64 (x50 + x51)) == x52)))))) (M.ret false)) (fun x48 => M.ret x48))))) (fun x42 => M.ret (.inl x42))))) (x39 == (-1000000000000000))) (fun x40 => M.ret (.inl (s7 && x40)))))) true) (fun x38 => M.ite (!(x38 == (decide (s5 < 0)))) (M.ret (.inr (.inr false))) (M.ret (.inl (w64 (s5 + 1)))))) (M.ret (.inr (.inl s5)))) (-1)) (fun x36 => M.cont x36 (fun _ => M.ret true) (fun r => M.ret r))))))))))))))))

end Go.Proofs.Ytmpjjdgfkjompaa
