/-
  Plain programs: what each Go function that the law reaches computes, on lists and integers.
  Conditions: None beyond the given statement.
-/
import Derived.Test.YtjdcdcipilhmeaaM
namespace Go.Proofs.Ytjdcdcipilhmeaa
open Go
structure TRatio where
  Num : Int
  Den : Int
structure TOrbit where
  matrix : List (List Int)
  list : List (List (List Int))
structure TRepeat where
  at_ : Int
  period : Int
  growth : Int
structure TL01source where
  code : List Int
  at_ : Int
  seed : Int
structure TL07series where
  a : List (List Int)
  last : List (List Int)
  lists : List (List Int)
structure TBoundserror where
  x : Int
  y : Int
  signed : Bool
  code : Int
structure TErroraddressstring where
  msg : ByteArray
  addr : Int
structure TPlace where
  From : Int
  To : Int
  Delay : Int
  Tokens : Int
structure TGraph where
  Events : Int
  Places : List TPlace
def spec_l01In (n_ : Int) (low : Int) (high : Int) : M Bool :=
  M.ret ((decide (low ≤ n_)) && (decide (n_ ≤ high)))

def spec_l01Finite (a_ : Int) : M Bool :=
  M.bind (spec_l01In a_ (-1000000) 1000000) (fun x1 => M.ret x1)

def spec_IsValue (a_ : Int) : M Bool :=
  M.bind (M.ite (a_ == (-1000000000000000)) (M.ret true) (M.bind (spec_l01Finite a_) (fun x2 => M.ret x2))) (fun x1 => M.ret x1)

def spec_l01All (list : List Int) (finite : Bool) : M Bool :=
  M.bind (M.forI 0 (list.length : Int) (fun s => .inl s) (fun i1 => (fun (_ : Unit) => M.bind (M.idx list i1) (fun x2 => M.bind (spec_IsValue x2) (fun x3 => M.bind (M.ite (!x3) (M.ret true) (M.bind (M.ite finite (M.bind (M.idx list i1) (fun x6 => M.ret (x6 == (-1000000000000000)))) (M.ret false)) (fun x5 => M.ret x5))) (fun x4 => M.ite x4 (M.ret (.inr (.inr false))) (M.ret (.inl ()))))))) ()) (fun x1 => M.cont x1 (fun _ => M.ret true) (fun r => M.ret r))

def impl_within (n_ : Int) (low : Int) (high : Int) : M Bool :=
  M.ret ((decide (low ≤ n_)) && (decide (n_ ≤ high)))

def impl_isFinite (n_ : Int) : M Bool :=
  M.bind (impl_within n_ (-1000000) 1000000) (fun x1 => M.ret x1)

def impl_IsValue (a_ : Int) : M Bool :=
  M.bind (M.ite (a_ == (-1000000000000000)) (M.ret true) (M.bind (impl_isFinite a_) (fun x2 => M.ret x2))) (fun x1 => M.ret x1)

def impl_areValues_1 (n_ : Int) : M Bool :=
  M.bind (impl_IsValue n_) (fun x1 => M.ret (!x1))

def slices_IndexFunc_int_F_impl_areValues_1 (s_ : List Int) : M Int :=
  M.bind (M.forI 0 (s_.length : Int) (fun s => .inl s) (fun i1 => (fun (_ : Unit) => M.bind (M.idx s_ i1) (fun x2 => M.bind (impl_areValues_1 x2) (fun x3 => M.ite x3 (M.ret (.inr (.inr i1))) (M.ret (.inl ())))))) ()) (fun x1 => M.cont x1 (fun _ => M.ret (-1)) (fun r => M.ret r))

def slices_ContainsFunc_int_F_impl_areValues_1 (s_ : List Int) : M Bool :=
  M.bind (slices_IndexFunc_int_F_impl_areValues_1 s_) (fun x1 => M.ret (decide (0 ≤ x1)))

def impl_areValues (list : List Int) : M Bool :=
  M.bind (slices_ContainsFunc_int_F_impl_areValues_1 list) (fun x1 => M.ret (!x1))

def laws_eqInt64S (a_ : List Int) (b : List Int) : M Bool :=
  M.ite ((a_.length : Int) != (b.length : Int)) (M.ret false) (M.bind (M.forI 0 (a_.length : Int) (fun s => .inl s) (fun i1 => (fun (_ : Unit) => M.bind (M.idx a_ i1) (fun x2 => M.bind (M.idx b i1) (fun x3 => M.ite (x2 != x3) (M.ret (.inr (.inr false))) (M.ret (.inl ())))))) ()) (fun x1 => M.cont x1 (fun _ => M.ret true) (fun r => M.ret r)))

def spec_l01Times (a_ : Int) (b : Int) : M Int :=
  M.ite ((a_ == (-1000000000000000)) || (b == (-1000000000000000))) (M.ret (-1000000000000000)) (M.ret (w64 (a_ + b)))

def impl_times (a_ : Int) (b : Int) : M Int :=
  M.ite ((a_ == (-1000000000000000)) || (b == (-1000000000000000))) (M.ret (-1000000000000000)) (M.ret (w64 (a_ + b)))

def spec_l02Bottom (m_ : Int) (n_ : Int) : M ((List (List Int))) :=
  M.bind (M.forI 0 m_ (fun s => s) (fun _ => (fun (s1 : (List (List Int))) => M.bind (M.forI 0 n_ (fun s => s) (fun _ => (fun (s2 : (List Int)) => M.bind (M.app s2 ([(-1000000000000000)] : List Int)) (fun l1 => M.ret (.inl l1)))) ([] : List Int)) (fun x2 => M.bind (M.app s1 [x2]) (fun l2 => M.ret (.inl l2))))) ([] : List (List Int))) (fun x1 => M.ret x1)

def spec_l02Vector (x_ : List Int) : M Bool :=
  M.bind (spec_l01In (x_.length : Int) 1 10) (fun x1 => M.bind (M.ite x1 (M.bind (spec_l01All x_ false) (fun x3 => M.ret x3)) (M.ret false)) (fun x2 => M.ret x2))

def spec_IsMatrix (a_ : List (List Int)) : M Bool :=
  M.ite ((decide ((a_.length : Int) < 1)) || (decide (10 < (a_.length : Int)))) (M.ret false) (M.bind (M.forI 0 (a_.length : Int) (fun s => .inl s) (fun i1 => (fun (_ : Unit) => M.bind (M.idx a_ i1) (fun x3 => M.bind (spec_l02Vector x3) (fun x4 => M.bind (M.ite (!x4) (M.ret true) (M.bind (M.idx a_ i1) (fun x6 => M.bind (M.idx a_ 0) (fun x7 => M.ret ((x6.length : Int) != (x7.length : Int)))))) (fun x5 => M.ite x5 (M.ret (.inr (.inr false))) (M.ret (.inl ()))))))) ()) (fun x2 => M.cont x2 (fun _ => M.ret true) (fun r => M.ret r)))

def spec_l02Square (a_ : List (List Int)) : M Bool :=
  M.bind (spec_IsMatrix a_) (fun x1 => M.bind (M.ite x1 (M.bind (M.idx a_ 0) (fun x3 => M.ret ((a_.length : Int) == (x3.length : Int)))) (M.ret false)) (fun x2 => M.ret x2))

def impl_IsMatrix_1 (row : List Int) (z0 : List (List Int)) : M Bool :=
  M.bind (M.idx z0 0) (fun x1 => M.bind (M.ite ((row.length : Int) != (x1.length : Int)) (M.ret true) (M.bind (impl_areValues row) (fun x3 => M.ret (!x3)))) (fun x2 => M.ret x2))

def slices_IndexFunc_row_F_impl_IsMatrix_1 (s_ : List (List Int)) (f0 : List (List Int)) : M Int :=
  M.bind (M.forI 0 (s_.length : Int) (fun s => .inl s) (fun i1 => (fun (_ : Unit) => M.bind (M.idx s_ i1) (fun x2 => M.bind (impl_IsMatrix_1 x2 f0) (fun x3 => M.ite x3 (M.ret (.inr (.inr i1))) (M.ret (.inl ())))))) ()) (fun x1 => M.cont x1 (fun _ => M.ret (-1)) (fun r => M.ret r))

def slices_ContainsFunc_row_F_impl_IsMatrix_1 (s_ : List (List Int)) (f0 : List (List Int)) : M Bool :=
  M.bind (slices_IndexFunc_row_F_impl_IsMatrix_1 s_ f0) (fun x1 => M.ret (decide (0 ≤ x1)))

def impl_IsMatrix (a_ : List (List Int)) : M Bool :=
  M.bind (impl_within (a_.length : Int) 1 10) (fun x1 => M.bind (M.ite (!x1) (M.ret true) (M.bind (M.idx a_ 0) (fun x3 => M.bind (impl_within (x3.length : Int) 1 10) (fun x4 => M.ret (!x4))))) (fun x2 => M.ite x2 (M.ret false) (M.bind (slices_ContainsFunc_row_F_impl_IsMatrix_1 a_ a_) (fun x5 => M.ret (!x5)))))

def impl_isSquare (a_ : List (List Int)) : M Bool :=
  M.bind (impl_IsMatrix a_) (fun x1 => M.bind (M.ite x1 (M.bind (M.idx a_ 0) (fun x3 => M.ret ((a_.length : Int) == (x3.length : Int)))) (M.ret false)) (fun x2 => M.ret x2))

def impl_checkedVector (x_ : List Int) : M ((List Int) × Int) :=
  M.bind (impl_areValues x_) (fun x1 => M.ite (!x1) (M.ret (([] : List Int), 3)) (M.ret (x_, 0)))

def spec_l01Same (a_ : List Int) (b : List Int) : M Bool :=
  M.ite ((a_.length : Int) != (b.length : Int)) (M.ret false) (M.bind (M.forI 0 (a_.length : Int) (fun s => .inl s) (fun i1 => (fun (_ : Unit) => M.bind (M.idx a_ i1) (fun x2 => M.bind (M.idx b i1) (fun x3 => M.ite (x2 != x3) (M.ret (.inr (.inr false))) (M.ret (.inl ())))))) ()) (fun x1 => M.cont x1 (fun _ => M.ret true) (fun r => M.ret r)))

def spec_l07Shift (x_ : List Int) (g : Int) : M ((List Int)) :=
  M.bind (M.forI 0 (x_.length : Int) (fun s => s) (fun i1 => (fun (s1 : (List Int)) => M.bind (M.idx x_ i1) (fun x2 => M.bind (spec_l01Times x2 g) (fun x3 => M.bind (M.app s1 ([x3] : List Int)) (fun l1 => M.ret (.inl l1)))))) ([] : List Int)) (fun x1 => M.ret x1)

def impl_isVector (x_ : List Int) : M Bool :=
  M.bind (impl_within (x_.length : Int) 1 10) (fun x1 => M.bind (M.ite x1 (M.bind (impl_areValues x_) (fun x3 => M.ret x3)) (M.ret false)) (fun x2 => M.ret x2))

def impl_shiftedVector (x_ : List Int) (g : Int) : M ((List Int)) :=
  M.bind (M.make (x_.length : Int) 0) (fun l1 => M.bind (M.forI 0 (x_.length : Int) (fun s => s) (fun i1 => (fun (s1 : (List Int)) => M.bind (M.idx x_ i1) (fun x2 => M.bind (impl_times x2 g) (fun x3 => M.bind (M.idx s1 i1) (fun x4 => M.bind (M.upd s1 i1 x3) (fun l2 => M.ret (.inl l2))))))) l1) (fun x1 => M.ret x1))

def impl_ShiftVector (x_ : List Int) (g : Int) : M ((List Int) × Int) :=
  M.bind (impl_isVector x_) (fun x1 => M.ite (!x1) (M.ret (([] : List Int), 1)) (M.bind (impl_isFinite g) (fun x2 => M.ite (!x2) (M.ret (([] : List Int), 2)) (M.bind (impl_shiftedVector x_ g) (fun x3 => M.bind (impl_checkedVector x3) (fun x4 => M.ret (x4.1, x4.2)))))))

def spec_l02Multiply (a_ : List (List Int)) (b : List (List Int)) : M ((List (List Int))) :=
  M.bind (M.idx b 0) (fun x1 => M.bind (spec_l02Bottom (a_.length : Int) (x1.length : Int)) (fun x2 => M.bind (M.forI 0 (a_.length : Int) (fun s => s) (fun i1 => (fun (s1 : (List (List Int))) => M.bind (M.loop (fun (s2 : (List (List Int)) × Int) => M.bind (M.idx b 0) (fun x5 => M.ite (decide (s2.2 < (x5.length : Int))) (M.bind (M.forI 0 (b.length : Int) (fun s => s) (fun i2 => (fun (s3 : (List (List Int))) => M.bind (M.idx s3 i1) (fun x7 => M.bind (M.idx s3 i1) (fun x8 => M.bind (M.idx x8 s2.2) (fun x9 => M.bind (M.idx a_ i1) (fun x10 => M.bind (M.idx x10 i2) (fun x11 => M.bind (M.idx b i2) (fun x12 => M.bind (M.idx x12 s2.2) (fun x13 => M.bind (spec_l01Times x11 x13) (fun x14 => M.bind (M.idx x7 s2.2) (fun x15 => M.bind (M.upd x7 s2.2 (mx x9 x14)) (fun l1 => M.ret (.inl (s3.set i1.toNat l1)))))))))))))) s2.1) (fun x6 => M.ret (.inl (x6, (w64 (s2.2 + 1)))))) (M.ret (.inr (s2.1, s2.2))))) (s1, 0)) (fun x4 => M.ret (.inl x4.1)))) x2) (fun x3 => M.ret x3)))

def impl_checkedMatrix_1 (row : List Int) : M Bool :=
  M.bind (impl_areValues row) (fun x1 => M.ret (!x1))

def slices_IndexFunc_row_F_impl_checkedMatrix_1 (s_ : List (List Int)) : M Int :=
  M.bind (M.forI 0 (s_.length : Int) (fun s => .inl s) (fun i1 => (fun (_ : Unit) => M.bind (M.idx s_ i1) (fun x2 => M.bind (impl_checkedMatrix_1 x2) (fun x3 => M.ite x3 (M.ret (.inr (.inr i1))) (M.ret (.inl ())))))) ()) (fun x1 => M.cont x1 (fun _ => M.ret (-1)) (fun r => M.ret r))

def slices_ContainsFunc_row_F_impl_checkedMatrix_1 (s_ : List (List Int)) : M Bool :=
  M.bind (slices_IndexFunc_row_F_impl_checkedMatrix_1 s_) (fun x1 => M.ret (decide (0 ≤ x1)))

def impl_checkedMatrix (a_ : List (List Int)) : M ((List (List Int)) × Int) :=
  M.bind (slices_ContainsFunc_row_F_impl_checkedMatrix_1 a_) (fun x1 => M.ite x1 (M.ret (([] : List (List Int)), 3)) (M.ret (a_, 0)))

def impl_multiply_1 (i : Int) (j : Int) (z0 : List (List Int)) (z1 : List (List Int)) : M Int :=
  M.bind (M.idx z0 i) (fun x1 => M.bind (M.forI 0 (x1.length : Int) (fun s => s) (fun i1 => (fun (s1 : Int) => M.bind (M.idx x1 i1) (fun x3 => M.bind (M.idx z1 i1) (fun x4 => M.bind (M.idx x4 j) (fun x5 => M.bind (impl_times x3 x5) (fun x6 => M.ret (.inl (mx s1 x6)))))))) (-1000000000000000)) (fun x2 => M.ret x2))

def impl_matrixBy_F_impl_multiply_1 (m_ : Int) (n_ : Int) (entry0 : List (List Int)) (entry1 : List (List Int)) : M ((List (List Int))) :=
  M.bind (M.make m_ []) (fun l1 => M.bind (M.forI 0 (l1.length : Int) (fun s => s) (fun i1 => (fun (s1 : (List (List Int))) => M.bind (M.make n_ 0) (fun l2 => M.bind (M.idx s1 i1) (fun x2 => M.bind (M.upd s1 i1 l2) (fun l3 => M.bind (M.idx l3 i1) (fun x3 => M.bind (M.forI 0 (x3.length : Int) (fun s => s) (fun i2 => (fun (s2 : (List (List Int))) => M.bind (M.idx s2 i1) (fun x5 => M.bind (impl_multiply_1 i1 i2 entry0 entry1) (fun x6 => M.bind (M.idx x5 i2) (fun x7 => M.bind (M.upd x5 i2 x6) (fun l4 => M.ret (.inl (s2.set i1.toNat l4)))))))) l3) (fun x4 => M.ret (.inl x4)))))))) l1) (fun x1 => M.ret x1))

def impl_multiply (a_ : List (List Int)) (b : List (List Int)) : M ((List (List Int))) :=
  M.bind (M.idx b 0) (fun x1 => M.bind (impl_matrixBy_F_impl_multiply_1 (a_.length : Int) (x1.length : Int) a_ b) (fun x2 => M.ret x2))

def spec_l07Flat (a_ : List (List Int)) : M ((List Int)) :=
  M.bind (M.forI 0 (a_.length : Int) (fun s => s) (fun i1 => (fun (s1 : (List Int)) => M.bind (M.idx a_ i1) (fun x2 => M.bind (M.app s1 x2) (fun l1 => M.ret (.inl l1))))) ([] : List Int)) (fun x1 => M.ret x1)

def spec_l07Start (a_ : List (List Int)) (first : List (List Int)) : M TL07series :=
  M.bind (spec_l07Flat first) (fun x1 => M.ret (⟨a_, first, [x1]⟩ : TL07series))

def spec_l07At_BQ0 (s_ : TL07series) (k_ : Int) : M ((List Int) × Bool × TL07series) :=
  M.bind (M.loop (fun (s1 : (List (List Int)) × (List (List Int))) => M.ite (decide ((s1.2.length : Int) ≤ k_)) (M.bind (spec_l02Multiply s_.a s1.1) (fun x2 => M.bind (spec_IsMatrix x2) (fun x3 => M.ite (!x3) (M.ret (.inr (.inr (([] : List Int), false, (⟨s_.a, x2, s1.2⟩ : TL07series))))) (M.bind (spec_l07Flat x2) (fun x4 => M.bind (M.app s1.2 [x4]) (fun l1 => M.ret (.inl (x2, l1)))))))) (M.ret (.inr (.inl (s1.1, s1.2))))) (s_.last, s_.lists)) (fun x1 => M.cont x1 (fun s2 => M.bind (M.idx s2.2 k_) (fun x5 => M.ret (x5, true, (⟨s_.a, s2.1, s2.2⟩ : TL07series)))) (fun r => M.ret r))

def impl_growthBetween (a_ : List (List Int)) (b : List (List Int)) : M (Int × Bool) :=
  M.bind (M.forI 0 (a_.length : Int) (fun s => .inl s) (fun i1 => (fun (s1 : Int × Bool) => M.bind (M.idx a_ i1) (fun x2 => M.bind (M.forI 0 (x2.length : Int) (fun s => .inl s) (fun i2 => (fun (s3 : Int × Bool) => M.bind (M.idx x2 i2) (fun x4 => M.bind (M.idx b i1) (fun x5 => M.bind (M.idx x5 i2) (fun x6 => M.ite ((x4 == (-1000000000000000)) && (x6 == (-1000000000000000))) (M.ret (.inl (s3.1, s3.2))) (M.ite (((x4 == (-1000000000000000)) || (x6 == (-1000000000000000))) || (s3.2 && ((w64 (x6 - x4)) != s3.1))) (M.ret (.inr (.inr (0, false)))) (M.ret (.inl ((w64 (x6 - x4)), true))))))))) (s1.1, s1.2)) (fun x3 => M.cont x3 (fun s4 => M.ret (.inl (s4.1, s4.2))) (fun r => M.ret (.inr (.inr r))))))) (0, false)) (fun x1 => M.cont x1 (fun s2 => M.ret (s2.1, true)) (fun r => M.ret r))

def impl_orbit_grow_B (o : TOrbit) (index : Int) : M (Bool × TOrbit) :=
  M.bind (M.loop (fun (s1 : (List (List (List Int)))) => M.ite (decide ((s1.length : Int) ≤ index)) (M.bind (M.idx s1 (w64 ((s1.length : Int) - 1))) (fun x2 => M.bind (impl_multiply o.matrix x2) (fun x3 => M.bind (impl_checkedMatrix x3) (fun x4 => M.ite (x4.2 != 0) (M.ret (.inr (.inr (false, (⟨o.matrix, s1⟩ : TOrbit))))) (M.bind (M.app s1 [x4.1]) (fun l1 => M.ret (.inl l1))))))) (M.ret (.inr (.inl s1)))) o.list) (fun x1 => M.cont x1 (fun s2 => M.ret (true, (⟨o.matrix, s2⟩ : TOrbit))) (fun r => M.ret r))

def spec_l07Gap (x_ : List Int) (y_ : List Int) : M (Int × Bool) :=
  M.bind (M.forI 0 (x_.length : Int) (fun s => s) (fun i1 => (fun (s1 : Int) => M.bind (M.idx x_ i1) (fun x2 => M.bind (M.ite (x2 != (-1000000000000000)) (M.bind (M.idx y_ i1) (fun x4 => M.ret (x4 != (-1000000000000000)))) (M.ret false)) (fun x3 => M.ite x3 (M.bind (M.idx y_ i1) (fun x5 => M.bind (M.idx x_ i1) (fun x6 => M.ret (.inr (w64 (x5 - x6)))))) (M.ret (.inl s1)))))) 0) (fun x1 => M.bind (spec_l07Shift x_ x1) (fun x7 => M.bind (spec_l01Same x7 y_) (fun x8 => M.ret (x1, x8))))

def spec_l02Turn (a_ : List (List Int)) : M ((List (List Int))) :=
  M.bind (M.idx a_ 0) (fun x1 => M.bind (spec_l02Bottom (x1.length : Int) (a_.length : Int)) (fun x2 => M.bind (M.forI 0 (a_.length : Int) (fun s => s) (fun i1 => (fun (s1 : (List (List Int))) => M.bind (M.loop (fun (s2 : (List (List Int)) × Int) => M.bind (M.idx a_ i1) (fun x5 => M.ite (decide (s2.2 < (x5.length : Int))) (M.bind (M.idx s2.1 s2.2) (fun x6 => M.bind (M.idx a_ i1) (fun x7 => M.bind (M.idx x7 s2.2) (fun x8 => M.bind (M.idx x6 i1) (fun x9 => M.bind (M.upd x6 i1 x8) (fun l1 => M.ret (.inl ((s2.1.set s2.2.toNat l1), (w64 (s2.2 + 1)))))))))) (M.ret (.inr (s2.1, s2.2))))) (s1, 0)) (fun x4 => M.ret (.inl x4.1)))) x2) (fun x3 => M.ret x3)))

def impl_transposed_1 (i : Int) (j : Int) (z0 : List (List Int)) : M Int :=
  M.bind (M.idx z0 j) (fun x1 => M.bind (M.idx x1 i) (fun x2 => M.ret x2))

def impl_matrixBy_F_impl_transposed_1 (m_ : Int) (n_ : Int) (entry0 : List (List Int)) : M ((List (List Int))) :=
  M.bind (M.make m_ []) (fun l1 => M.bind (M.forI 0 (l1.length : Int) (fun s => s) (fun i1 => (fun (s1 : (List (List Int))) => M.bind (M.make n_ 0) (fun l2 => M.bind (M.idx s1 i1) (fun x2 => M.bind (M.upd s1 i1 l2) (fun l3 => M.bind (M.idx l3 i1) (fun x3 => M.bind (M.forI 0 (x3.length : Int) (fun s => s) (fun i2 => (fun (s2 : (List (List Int))) => M.bind (M.idx s2 i1) (fun x5 => M.bind (impl_transposed_1 i1 i2 entry0) (fun x6 => M.bind (M.idx x5 i2) (fun x7 => M.bind (M.upd x5 i2 x6) (fun l4 => M.ret (.inl (s2.set i1.toNat l4)))))))) l3) (fun x4 => M.ret (.inl x4)))))))) l1) (fun x1 => M.ret x1))

def impl_transposed (a_ : List (List Int)) : M ((List (List Int))) :=
  M.bind (M.idx a_ 0) (fun x1 => M.bind (impl_matrixBy_F_impl_transposed_1 (x1.length : Int) (a_.length : Int) a_) (fun x2 => M.ret x2))

def spec_l07Code (a_ : List (List Int)) (x_ : List Int) : M Int :=
  M.bind (spec_l02Square a_) (fun x1 => M.bind (M.ite (!x1) (M.ret true) (M.bind (spec_l02Vector x_) (fun x3 => M.ret (!x3)))) (fun x2 => M.ite x2 (M.ret 1) (M.ite ((x_.length : Int) != (a_.length : Int)) (M.ret 5) (M.ret 0))))

def spec_l07Column (x_ : List Int) : M ((List (List Int))) :=
  M.bind (spec_l02Turn [x_]) (fun x1 => M.ret x1)

def impl_checkOrbit (a_ : List (List Int)) (x_ : List Int) : M Int :=
  M.bind (impl_isSquare a_) (fun x1 => M.bind (M.ite (!x1) (M.ret true) (M.bind (impl_isVector x_) (fun x3 => M.ret (!x3)))) (fun x2 => M.ite x2 (M.ret 1) (M.ite ((x_.length : Int) != (a_.length : Int)) (M.ret 5) (M.ret 0))))

def impl_vectorOrbit (a_ : List (List Int)) (x_ : List Int) : M TOrbit :=
  M.bind (impl_transposed [x_]) (fun x1 => M.ret (⟨a_, [x1]⟩ : TOrbit))

def impl_OrbitOf (a_ : List (List Int)) (x_ : List Int) (n_ : Int) : M ((List (List Int)) × Int) :=
  M.bind (impl_checkOrbit a_ x_) (fun x1 => M.ite (x1 != 0) (M.ret (([] : List (List Int)), x1)) (M.bind (impl_within n_ 0 100) (fun x2 => M.ite (!x2) (M.ret (([] : List (List Int)), 2)) (M.bind (impl_vectorOrbit a_ x_) (fun x3 => M.bind (impl_orbit_grow_B x3 n_) (fun x4 => M.ite (!x4.1) (M.ret (([] : List (List Int)), 3)) (M.bind (M.sub x4.2.list 0 (w64 (n_ + 1))) (fun x5 => M.bind (M.forI 0 (((w64 (n_ + 1)).toNat - (0 : Int).toNat : Nat) : Int) (fun s => s) (fun i1 => (fun (s1 : (List (List Int))) => M.bind (M.idx x5 i1) (fun x7 => M.bind (impl_transposed x7) (fun x8 => M.bind (M.idx x8 0) (fun x9 => M.bind (M.app s1 [x9]) (fun l1 => M.ret (.inl l1))))))) []) (fun x6 => M.ret (x6, 0))))))))))

def spec_l01Divisor (a_ : Int) (b : Int) : M Int :=
  M.bind (M.loop (fun (s1 : Int × Int) => M.ite (decide (0 < s1.2)) (M.bind (M.guard (s1.2 != 0)) (fun _ => M.ret (.inl (s1.2, (s1.1.tmod s1.2))))) (M.ret (.inr (s1.1, s1.2)))) ((mx a_ (w64 (0 - a_))), (mx b (w64 (0 - b))))) (fun x1 => M.ret x1.1)

def spec_l01Ratio (num : Int) (den : Int) : M TRatio :=
  M.bind (M.ite (decide (den < 0)) (M.ret ((w64 (0 - num)), (w64 (0 - den)))) (M.ret (num, den))) (fun (s1 : Int × Int) => M.bind (spec_l01Divisor s1.1 s1.2) (fun x1 => M.bind (M.guard (x1 != 0)) (fun _ => M.bind (M.guard (x1 != 0)) (fun _ => M.ret (⟨(w64 (s1.1.tdiv x1)), (w64 (s1.2.tdiv x1))⟩ : TRatio)))))

def spec_IsRatio (r_ : TRatio) : M Bool :=
  M.bind (spec_l01Finite r_.Num) (fun x1 => M.bind (M.ite x1 (M.bind (spec_l01In r_.Den 1 1000000) (fun x3 => M.ret x3)) (M.ret false)) (fun x2 => M.bind (M.ite x2 (M.bind (spec_l01Divisor r_.Num r_.Den) (fun x5 => M.ret (x5 == 1))) (M.ret false)) (fun x4 => M.ret x4)))

def impl_absOf (n_ : Int) : M Int :=
  M.ite (decide (n_ < 0)) (M.ret (w64 (0 - n_))) (M.ret n_)

def impl_divisorOf (a_ : Int) (b : Int) : M Int :=
  M.bind (M.loop (fun (s1 : Int × Int) => M.ite (decide (0 < s1.2)) (M.bind (M.guard (s1.2 != 0)) (fun _ => M.ret (.inl (s1.2, (s1.1.tmod s1.2))))) (M.ret (.inr (s1.1, s1.2)))) (a_, b)) (fun x1 => M.ret x1.1)

def impl_ratioOf (num : Int) (den : Int) : M TRatio :=
  M.bind (M.ite (decide (den < 0)) (M.ret ((w64 (0 - num)), (w64 (0 - den)))) (M.ret (num, den))) (fun (s1 : Int × Int) => M.bind (impl_absOf s1.1) (fun x1 => M.bind (impl_divisorOf x1 s1.2) (fun x2 => M.bind (M.guard (x2 != 0)) (fun _ => M.bind (M.guard (x2 != 0)) (fun _ => M.ret (⟨(w64 (s1.1.tdiv x2)), (w64 (s1.2.tdiv x2))⟩ : TRatio))))))

def impl_IsRatio (r_ : TRatio) : M Bool :=
  M.bind (impl_isFinite r_.Num) (fun x1 => M.bind (M.ite x1 (M.bind (impl_within r_.Den 1 1000000) (fun x3 => M.ret x3)) (M.ret false)) (fun x2 => M.bind (M.ite x2 (M.bind (impl_absOf r_.Num) (fun x5 => M.bind (impl_divisorOf x5 r_.Den) (fun x6 => M.ret (x6 == 1)))) (M.ret false)) (fun x4 => M.ret x4)))

def spec_l07At_BQ1 (s_ : TL07series) (k_ : Int) : M ((List Int) × Bool × TL07series) :=
  M.bind (M.loop (fun (s1 : (List (List Int)) × (List (List Int))) => M.ite (decide ((s1.2.length : Int) ≤ k_)) (M.bind (spec_l02Multiply s_.a s1.1) (fun x2 => M.bind (spec_IsMatrix x2) (fun x3 => M.ite (!x3) (M.ret (.inr (.inr (([] : List Int), false, (⟨s_.a, x2, s1.2⟩ : TL07series))))) (M.bind (spec_l07Flat x2) (fun x4 => M.bind (M.app s1.2 [x4]) (fun l1 => M.ret (.inl (x2, l1)))))))) (M.ret (.inr (.inl (s1.1, s1.2))))) (s_.last, s_.lists)) (fun x1 => M.cont x1 (fun s2 => M.bind (M.idx s2.2 k_) (fun x5 => M.ret (x5, true, (⟨s_.a, s2.1, s2.2⟩ : TL07series)))) (fun r => M.ret r))

def spec_l07Find_B (s_ : TL07series) : M (Int × Int × Int × Int × TL07series) :=
  M.bind (M.forI 0 100 (fun s => .inl s) (fun i1 => (fun (s1 : (List (List Int)) × (List (List Int))) => M.bind (spec_l07At_BQ0 (⟨s_.a, s1.1, s1.2⟩ : TL07series) i1) (fun x2 => M.bind (M.loop (fun (s3 : (List (List Int)) × (List (List Int)) × Int) => M.ite (decide ((w64 (i1 + s3.2.2)) ≤ 100)) (M.bind (spec_l07At_BQ1 (⟨s_.a, s3.1, s3.2.1⟩ : TL07series) (w64 (i1 + s3.2.2))) (fun x4 => M.ite (!x4.2.1) (M.ret (.inr (.inr (0, 0, 0, 3, (⟨s_.a, x4.2.2.last, x4.2.2.lists⟩ : TL07series))))) (M.bind (spec_l07Gap x2.1 x4.1) (fun x5 => M.ite x5.2 (M.ret (.inr (.inr (i1, s3.2.2, x5.1, 0, (⟨s_.a, x4.2.2.last, x4.2.2.lists⟩ : TL07series))))) (M.ret (.inl (x4.2.2.last, x4.2.2.lists, (w64 (s3.2.2 + 1))))))))) (M.ret (.inr (.inl (s3.1, s3.2.1, s3.2.2))))) (x2.2.2.last, x2.2.2.lists, 1)) (fun x3 => M.cont x3 (fun s4 => M.ret (.inl (s4.1, s4.2.1))) (fun r => M.ret (.inr (.inr r))))))) (s_.last, s_.lists)) (fun x1 => M.cont x1 (fun s2 => M.ret (0, 0, 0, 4, (⟨s_.a, s2.1, s2.2⟩ : TL07series))) (fun r => M.ret r))

def impl_orbit_firstRepeat_B (o : TOrbit) : M (TRepeat × Int × TOrbit) :=
  M.bind (M.forI 0 100 (fun s => .inl s) (fun i1 => (fun (s1 : (List (List (List Int)))) => M.bind (M.loop (fun (s3 : (List (List (List Int))) × Int) => M.ite (decide ((w64 (i1 + s3.2)) ≤ 100)) (M.bind (impl_orbit_grow_B (⟨o.matrix, s3.1⟩ : TOrbit) (w64 (i1 + s3.2))) (fun x3 => M.ite (!x3.1) (M.ret (.inr (.inr ((⟨0, 0, 0⟩ : TRepeat), 3, (⟨o.matrix, x3.2.list⟩ : TOrbit))))) (M.bind (M.idx x3.2.list i1) (fun x4 => M.bind (M.idx x3.2.list (w64 (i1 + s3.2))) (fun x5 => M.bind (impl_growthBetween x4 x5) (fun x6 => M.ite x6.2 (M.ret (.inr (.inr ((⟨i1, s3.2, x6.1⟩ : TRepeat), 0, (⟨o.matrix, x3.2.list⟩ : TOrbit))))) (M.ret (.inl (x3.2.list, (w64 (s3.2 + 1))))))))))) (M.ret (.inr (.inl (s3.1, s3.2))))) (s1, 1)) (fun x2 => M.cont x2 (fun s4 => M.ret (.inl s4.1)) (fun r => M.ret (.inr (.inr r)))))) o.list) (fun x1 => M.cont x1 (fun s2 => M.ret ((⟨0, 0, 0⟩ : TRepeat), 4, (⟨o.matrix, s2⟩ : TOrbit))) (fun r => M.ret r))

def spec_OrbitRepeats (a_ : List (List Int)) (x_ : List Int) : M (Int × Int × Int × Int) :=
  M.bind (spec_l07Code a_ x_) (fun x1 => M.ite (x1 != 0) (M.ret (0, 0, 0, x1)) (M.bind (spec_l07Column x_) (fun x2 => M.bind (spec_l07Start a_ x2) (fun x3 => M.bind (spec_l07Find_B x3) (fun x4 => M.ret (x4.1, x4.2.1, x4.2.2.1, x4.2.2.2.1))))))

def spec_l04Result (r_ : TRatio) : M (TRatio × Int) :=
  M.bind (spec_IsRatio r_) (fun x1 => M.ite (!x1) (M.ret ((⟨0, 0⟩ : TRatio), 3)) (M.ret (r_, 0)))

def spec_OrbitRate (a_ : List (List Int)) (x_ : List Int) : M (TRatio × Int) :=
  M.bind (spec_OrbitRepeats a_ x_) (fun x1 => M.ite (x1.2.2.2 != 0) (M.ret ((⟨0, 0⟩ : TRatio), x1.2.2.2)) (M.bind (spec_l01Ratio x1.2.2.1 x1.2.1) (fun x2 => M.bind (spec_l04Result x2) (fun x3 => M.ret (x3.1, x3.2)))))

def impl_checkedRatio (r_ : TRatio) : M (TRatio × Int) :=
  M.bind (impl_IsRatio r_) (fun x1 => M.ite (!x1) (M.ret ((⟨0, 0⟩ : TRatio), 3)) (M.ret (r_, 0)))

def impl_OrbitRate (a_ : List (List Int)) (x_ : List Int) : M (TRatio × Int) :=
  M.bind (impl_checkOrbit a_ x_) (fun x1 => M.ite (x1 != 0) (M.ret ((⟨0, 0⟩ : TRatio), x1)) (M.bind (impl_vectorOrbit a_ x_) (fun x2 => M.bind (impl_orbit_firstRepeat_B x2) (fun x3 => M.ite (x3.2.1 != 0) (M.ret ((⟨0, 0⟩ : TRatio), x3.2.1)) (M.bind (impl_ratioOf x3.1.growth x3.1.period) (fun x4 => M.bind (impl_checkedRatio x4) (fun x5 => M.ret (x5.1, x5.2))))))))

def impl_OrbitRepeats (a_ : List (List Int)) (x_ : List Int) : M (Int × Int × Int × Int) :=
  M.bind (impl_checkOrbit a_ x_) (fun x1 => M.ite (x1 != 0) (M.ret (0, 0, 0, x1)) (M.bind (impl_vectorOrbit a_ x_) (fun x2 => M.bind (impl_orbit_firstRepeat_B x2) (fun x3 => M.ret (x3.1.at_, x3.1.period, x3.1.growth, x3.2.1)))))

def laws_big (code : List Int) : M Bool :=
  M.ret (decide (4096 < (code.length : Int)))

def spec_l01From (code : List Int) : M TL01source :=
  M.bind (M.loop (fun (s1 : Int × Int) => M.ite ((decide (s1.2 < (code.length : Int))) && (decide (s1.2 < 64))) (M.bind (M.idx code s1.2) (fun x3 => M.ret (.inl (((w64 ((w64 (s1.1 * 67)) + (w64 (x3)))).tmod 2147483647), (w64 (s1.2 + 1)))))) (M.ret (.inr (s1.1, s1.2)))) (61403, 0)) (fun x1 => M.ret (⟨code, 0, x1.1⟩ : TL01source))

def spec_l01Next (s_ : TL01source) (n_ : Int) : M (Int × TL01source) :=
  M.ite (decide (n_ ≤ 1)) (M.ret (0, s_)) (M.bind (M.ite (decide (s_.at_ < (s_.code.length : Int))) (M.bind (M.idx s_.code s_.at_) (fun x1 => M.ite ((decide (n_ ≤ 256)) && (((w64 (s_.at_ + 1)).tmod 2) == 0)) (M.bind (M.idx s_.code (w64 ((w64 (s_.at_ + 1)) - 1))) (fun x3 => M.ret ((w64 (x3)), (w64 (s_.at_ + 1))))) (M.ret ((w64 ((w64 (((w64 ((w64 (s_.seed * 48271)) + 59)).tmod 2147483647).tdiv 31)) + (w64 (x1)))), (w64 (s_.at_ + 1)))))) (M.ret ((w64 (((w64 ((w64 (s_.seed * 48271)) + 59)).tmod 2147483647).tdiv 31)), s_.at_))) (fun (s1 : Int × Int) => M.bind (M.guard (n_ != 0)) (fun _ => M.ret ((s1.1.tmod n_), (⟨s_.code, s1.2, ((w64 ((w64 (s_.seed * 48271)) + 59)).tmod 2147483647)⟩ : TL01source)))))

def spec_l01Pick (s_ : TL01source) (list : List Int) : M (Int × TL01source × (List Int)) :=
  M.bind (spec_l01Next s_ (list.length : Int)) (fun x1 => M.bind (M.idx list x1.1) (fun x2 => M.ret (x2, (⟨s_.code, x1.2.at_, x1.2.seed⟩ : TL01source), list)))

def laws_likeInts (a_ : List Int) (b : List Int) : M Bool :=
  M.ite ((a_.length : Int) != (b.length : Int)) (M.ret false) (M.bind (M.forI 0 (a_.length : Int) (fun s => .inl s) (fun i1 => (fun (_ : Unit) => M.bind (M.idx a_ i1) (fun x2 => M.bind (M.idx b i1) (fun x3 => M.ite (x2 != x3) (M.ret (.inr (.inr false))) (M.ret (.inl ())))))) ()) (fun x1 => M.cont x1 (fun _ => M.ret true) (fun r => M.ret r)))

def spec_l01DrawValue (s_ : TL01source) : M (Int × TL01source) :=
  M.bind (spec_l01Next s_ 24) (fun x1 => M.bind (M.ite (x1.1 == 0) (M.ret (x1.1 == 0)) (M.ite (x1.1 == 1) (M.ret (x1.1 == 1)) (M.ret (x1.1 == 2)))) (fun (s1 : Bool) => M.ite s1 (M.ret ((-1000000000000000), (⟨s_.code, x1.2.at_, x1.2.seed⟩ : TL01source))) (M.ite (x1.1 == 3) (M.bind (spec_l01Pick (⟨s_.code, x1.2.at_, x1.2.seed⟩ : TL01source) ([1000000, 1000001, (-1000000), (-1000001), (-999999999999999), (-1000000000000001), 9223372036854775807] : List Int)) (fun x2 => M.ret (x2.1, (⟨s_.code, x2.2.1.at_, x2.2.1.seed⟩ : TL01source)))) (M.ite (x1.1 == 4) (M.bind (spec_l01Next (⟨s_.code, x1.2.at_, x1.2.seed⟩ : TL01source) 2000) (fun x3 => M.ret ((w64 ((w64 (x3.1 - 1000)) * 701)), (⟨s_.code, x3.2.at_, x3.2.seed⟩ : TL01source)))) (M.bind (spec_l01Next (⟨s_.code, x1.2.at_, x1.2.seed⟩ : TL01source) 41) (fun x4 => M.ret ((w64 (x4.1 - 20)), (⟨s_.code, x4.2.at_, x4.2.seed⟩ : TL01source))))))))

def spec_l02DrawSize (s_ : TL01source) (m_ : Int) (n_ : Int) : M ((List (List Int)) × TL01source) :=
  M.bind (spec_l02Bottom m_ n_) (fun x1 => M.bind (spec_l01Pick s_ ([2, 3, 5] : List Int)) (fun x2 => M.bind (M.forI 0 m_ (fun s => s) (fun i1 => (fun (s1 : Int × Int × (List (List Int))) => M.bind (M.forI 0 n_ (fun s => s) (fun i2 => (fun (s2 : Int × Int × (List (List Int))) => M.bind (spec_l01Next (⟨s_.code, s2.1, s2.2.1⟩ : TL01source) x2.1) (fun x5 => M.bind (M.ite (decide (0 < x5.1)) (M.bind (M.idx s2.2.2 i1) (fun x6 => M.bind (spec_l01Next (⟨s_.code, x5.2.at_, x5.2.seed⟩ : TL01source) 26) (fun x7 => M.bind (M.idx x6 i2) (fun x8 => M.bind (M.upd x6 i2 (w64 (x7.1 - 10))) (fun l1 => M.ret (x7.2.at_, x7.2.seed, (s2.2.2.set i1.toNat l1))))))) (M.ret (x5.2.at_, x5.2.seed, s2.2.2))) (fun (s3 : Int × Int × (List (List Int))) => M.ret (.inl (s3.1, s3.2.1, s3.2.2)))))) (s1.1, s1.2.1, s1.2.2)) (fun x4 => M.ret (.inl (x4.1, x4.2.1, x4.2.2))))) (x2.2.1.at_, x2.2.1.seed, x1)) (fun x3 => M.bind (spec_l01Next (⟨s_.code, x3.1, x3.2.1⟩ : TL01source) 60) (fun x9 => M.ite (x9.1 == 0) (M.bind (M.idx x3.2.2 0) (fun x10 => M.bind (spec_l01DrawValue (⟨s_.code, x9.2.at_, x9.2.seed⟩ : TL01source)) (fun x11 => M.bind (M.idx x10 0) (fun x12 => M.bind (M.upd x10 0 x11.1) (fun l2 => M.ret ((x3.2.2.set 0 l2), (⟨s_.code, x11.2.at_, x11.2.seed⟩ : TL01source))))))) (M.ite (x9.1 == 1) (M.bind (M.app x3.2.2 [([] : List Int)]) (fun l3 => M.ret (l3, (⟨s_.code, x9.2.at_, x9.2.seed⟩ : TL01source)))) (M.ite (x9.1 == 2) (M.ret (([] : List (List Int)), (⟨s_.code, x9.2.at_, x9.2.seed⟩ : TL01source))) (M.ret (x3.2.2, (⟨s_.code, x9.2.at_, x9.2.seed⟩ : TL01source)))))))))

def spec_l02DrawVector (s_ : TL01source) (n_ : Int) : M ((List Int) × TL01source) :=
  M.bind (M.loop (fun (s1 : Int × Int × Int × (List Int)) => M.ite (decide (0 < s1.2.2.1)) (M.bind (spec_l01Next (⟨s_.code, s1.1, s1.2.1⟩ : TL01source) 31) (fun x2 => M.bind (M.app s1.2.2.2 ([(w64 (x2.1 - 15))] : List Int)) (fun l1 => M.bind (spec_l01Next (⟨s_.code, x2.2.at_, x2.2.seed⟩ : TL01source) 8) (fun x3 => M.bind (M.ite (x3.1 == 0) (M.bind (M.idx l1 (w64 ((l1.length : Int) - 1))) (fun x4 => M.bind (M.upd l1 (w64 ((l1.length : Int) - 1)) (-1000000000000000)) (fun l2 => M.ret l2))) (M.ret l1)) (fun (s2 : (List Int)) => M.ret (.inl (x3.2.at_, x3.2.seed, (w64 (s1.2.2.1 - 1)), s2))))))) (M.ret (.inr (s1.1, s1.2.1, s1.2.2.1, s1.2.2.2)))) (s_.at_, s_.seed, n_, ([] : List Int))) (fun x1 => M.bind (spec_l01Next (⟨s_.code, x1.1, x1.2.1⟩ : TL01source) 60) (fun x5 => M.ite (x5.1 == 0) (M.bind (spec_l01DrawValue (⟨s_.code, x5.2.at_, x5.2.seed⟩ : TL01source)) (fun x6 => M.bind (M.app x1.2.2.2 ([x6.1] : List Int)) (fun l3 => M.ret (l3, (⟨s_.code, x6.2.at_, x6.2.seed⟩ : TL01source))))) (M.ite (x5.1 == 1) (M.ret (([] : List Int), (⟨s_.code, x5.2.at_, x5.2.seed⟩ : TL01source))) (M.ret (x1.2.2.2, (⟨s_.code, x5.2.at_, x5.2.seed⟩ : TL01source))))))

def spec_l07Draw (s_ : TL01source) : M ((List (List Int)) × TL01source) :=
  M.bind (spec_l01Next s_ 4) (fun x1 => M.bind (spec_l01Next (⟨s_.code, x1.2.at_, x1.2.seed⟩ : TL01source) 40) (fun x2 => M.ite (x2.1 == 0) (M.bind (spec_l01Pick (⟨s_.code, x2.2.at_, x2.2.seed⟩ : TL01source) ([100000, 9999, (-10001)] : List Int)) (fun x3 => M.ret ([([x3.1] : List Int)], (⟨s_.code, x3.2.1.at_, x3.2.1.seed⟩ : TL01source)))) (M.bind (spec_l02DrawSize (⟨s_.code, x2.2.at_, x2.2.seed⟩ : TL01source) (w64 (1 + x1.1)) (w64 (1 + x1.1))) (fun x4 => M.ret (x4.1, (⟨s_.code, x4.2.at_, x4.2.seed⟩ : TL01source))))))

def spec_l07DrawPair (s_ : TL01source) : M ((List (List Int)) × (List Int) × TL01source) :=
  M.bind (spec_l07Draw s_) (fun x1 => M.bind (spec_l01Next (⟨s_.code, x1.2.at_, x1.2.seed⟩ : TL01source) 24) (fun x2 => M.bind (M.ite (x2.1 == 0) (M.ret (w64 ((x1.1.length : Int) + 1))) (M.ret (x1.1.length : Int))) (fun (s1 : Int) => M.bind (spec_l02DrawVector (⟨s_.code, x2.2.at_, x2.2.seed⟩ : TL01source) s1) (fun x3 => M.ret (x1.1, x3.1, (⟨s_.code, x3.2.at_, x3.2.seed⟩ : TL01source))))))

def spec_DrawOrbitRepeats (code : List Int) : M ((List (List Int)) × (List Int)) :=
  M.bind (spec_l01From code) (fun x1 => M.bind (spec_l07DrawPair x1) (fun x2 => M.ret (x2.1, x2.2.1)))

def laws_FnOrbitRates (code : List Int) : M Bool :=
  M.bind (laws_big code) (fun x1 => M.ite x1 (M.ret true) (M.bind (spec_DrawOrbitRepeats code) (fun x2 => M.bind (impl_OrbitRepeats x2.1 x2.2) (fun x3 => M.bind (spec_OrbitRepeats x2.1 x2.2) (fun x4 => M.bind (impl_OrbitRate x2.1 x2.2) (fun x5 => M.bind (spec_OrbitRate x2.1 x2.2) (fun x6 => M.ite ((((((x3.2.2.2 != x4.2.2.2) || (x3.1 != x4.1)) || (x3.2.1 != x4.2.1)) || (x3.2.2.1 != x4.2.2.1)) || (x5.2 != x6.2)) || (!((x5.1.Num == x6.1.Num) && (x5.1.Den == x6.1.Den)))) (M.ret false) (M.ite (x3.2.2.2 != 0) (M.ret true) (M.bind (impl_OrbitOf x2.1 x2.2 (w64 (x3.1 + x3.2.1))) (fun x12 => M.ite (x12.2 != 0) (M.ret false) (M.bind (M.idx x12.1 x3.1) (fun x13 => M.bind (impl_ShiftVector x13 x3.2.2.1) (fun x14 => M.bind (M.ite (x14.2 == 0) (M.bind (M.idx x12.1 (w64 (x3.1 + x3.2.1))) (fun x16 => M.bind (laws_likeInts x14.1 x16) (fun x17 => M.ret x17))) (M.ret false)) (fun x15 => M.ret (x15 && ((x5.2 != 0) || ((w64 (x5.1.Num * x3.2.1)) == (w64 (x3.2.2.1 * x5.1.Den)))))))))))))))))))

end Go.Proofs.Ytjdcdcipilhmeaa
