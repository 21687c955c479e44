/-
  Plain programs: what each Go function that the law reaches computes, on lists and integers.
  Conditions: None beyond the given statement.
-/
import Derived.Test.YtdgehhbgjmgjjaaM
namespace Go.Proofs.Ytdgehhbgjmgjjaa
open Go
structure TPlace where
  From : Int
  To : Int
  Delay : Int
  Tokens : Int
structure TGraph where
  Events : Int
  Places : List TPlace
structure TBoundserror where
  x : Int
  y : Int
  signed : Bool
  code : Int
structure TErroraddressstring where
  msg : ByteArray
  addr : Int
def laws_toInt64S (a_ : List Int) : M ((List Int)) :=
  M.bind (M.make (a_.length : Int) 0) (fun l1 => M.bind (M.forI 0 (a_.length : Int) (fun s => s) (fun i1 => (fun (s1 : (List Int)) => M.bind (M.idx a_ i1) (fun x2 => M.bind (M.idx s1 i1) (fun x3 => M.bind (M.upd s1 i1 x2) (fun l2 => M.ret (.inl l2)))))) l1) (fun x1 => M.ret x1))

def spec_l01In (n_ : Int) (low : Int) (high : Int) : M Bool :=
  M.ret ((decide (low ≤ n_)) && (decide (n_ ≤ high)))

def spec_l01Finite (a_ : Int) : M Bool :=
  M.bind (spec_l01In a_ (-1000000) 1000000) (fun x1 => M.ret x1)

def spec_IsValue (a_ : Int) : M Bool :=
  M.bind (M.ite (a_ == (-1000000000000000)) (M.ret true) (M.bind (spec_l01Finite a_) (fun x2 => M.ret x2))) (fun x1 => M.ret x1)

def spec_l01All (list : List Int) (finite : Bool) : M Bool :=
  M.bind (M.forI 0 (list.length : Int) (fun s => .inl s) (fun i1 => (fun (_ : Unit) => M.bind (M.idx list i1) (fun x2 => M.bind (spec_IsValue x2) (fun x3 => M.bind (M.ite (!x3) (M.ret true) (M.bind (M.ite finite (M.bind (M.idx list i1) (fun x6 => M.ret (x6 == (-1000000000000000)))) (M.ret false)) (fun x5 => M.ret x5))) (fun x4 => M.ite x4 (M.ret (.inr (.inr false))) (M.ret (.inl ()))))))) ()) (fun x1 => M.cont x1 (fun _ => M.ret true) (fun r => M.ret r))

def impl_within (n_ : Int) (low : Int) (high : Int) : M Bool :=
  M.ret ((decide (low ≤ n_)) && (decide (n_ ≤ high)))

def impl_isFinite (n_ : Int) : M Bool :=
  M.bind (impl_within n_ (-1000000) 1000000) (fun x1 => M.ret x1)

def impl_IsValue (a_ : Int) : M Bool :=
  M.bind (M.ite (a_ == (-1000000000000000)) (M.ret true) (M.bind (impl_isFinite a_) (fun x2 => M.ret x2))) (fun x1 => M.ret x1)

def impl_areValues_1 (n_ : Int) : M Bool :=
  M.bind (impl_IsValue n_) (fun x1 => M.ret (!x1))

def slices_IndexFunc_int_F_impl_areValues_1 (s_ : List Int) : M Int :=
  M.bind (M.forI 0 (s_.length : Int) (fun s => .inl s) (fun i1 => (fun (_ : Unit) => M.bind (M.idx s_ i1) (fun x2 => M.bind (impl_areValues_1 x2) (fun x3 => M.ite x3 (M.ret (.inr (.inr i1))) (M.ret (.inl ())))))) ()) (fun x1 => M.cont x1 (fun _ => M.ret (-1)) (fun r => M.ret r))

def slices_ContainsFunc_int_F_impl_areValues_1 (s_ : List Int) : M Bool :=
  M.bind (slices_IndexFunc_int_F_impl_areValues_1 s_) (fun x1 => M.ret (decide (0 ≤ x1)))

def impl_areValues (list : List Int) : M Bool :=
  M.bind (slices_ContainsFunc_int_F_impl_areValues_1 list) (fun x1 => M.ret (!x1))

def laws_eqInt64S (a_ : List Int) (b : List Int) : M Bool :=
  M.ite ((a_.length : Int) != (b.length : Int)) (M.ret false) (M.bind (M.forI 0 (a_.length : Int) (fun s => .inl s) (fun i1 => (fun (_ : Unit) => M.bind (M.idx a_ i1) (fun x2 => M.bind (M.idx b i1) (fun x3 => M.ite (x2 != x3) (M.ret (.inr (.inr false))) (M.ret (.inl ())))))) ()) (fun x1 => M.cont x1 (fun _ => M.ret true) (fun r => M.ret r)))

def spec_l02Vector (x_ : List Int) : M Bool :=
  M.bind (spec_l01In (x_.length : Int) 1 10) (fun x1 => M.bind (M.ite x1 (M.bind (spec_l01All x_ false) (fun x3 => M.ret x3)) (M.ret false)) (fun x2 => M.ret x2))

def laws_szInt64S (a_ : List Int) (left : Int) : M Int :=
  M.ite (decide ((w64 (left - (a_.length : Int))) < 0)) (M.ret (-1)) (M.ret (w64 (left - (a_.length : Int))))

def laws_szInt64SS (a_ : List (List Int)) (left : Int) : M Int :=
  M.ite (decide ((w64 (left - (a_.length : Int))) < 0)) (M.ret (-1)) (M.bind (M.forI 0 (a_.length : Int) (fun s => .inl s) (fun i1 => (fun (s1 : Int) => M.bind (M.idx a_ i1) (fun x2 => M.bind (laws_szInt64S x2 s1) (fun x3 => M.ite (decide (x3 < 0)) (M.ret (.inr (.inr (-1)))) (M.ret (.inl x3)))))) (w64 (left - (a_.length : Int)))) (fun x1 => M.cont x1 (fun s2 => M.ret s2) (fun r => M.ret r)))

def laws_toInt64SS (a_ : List (List Int)) : M ((List (List Int))) :=
  M.bind (M.make (a_.length : Int) []) (fun l1 => M.bind (M.forI 0 (a_.length : Int) (fun s => s) (fun i1 => (fun (s1 : (List (List Int))) => M.bind (M.idx a_ i1) (fun x2 => M.bind (laws_toInt64S x2) (fun x3 => M.bind (M.idx s1 i1) (fun x4 => M.bind (M.upd s1 i1 x3) (fun l2 => M.ret (.inl l2))))))) l1) (fun x1 => M.ret x1))

def spec_IsMatrix (a_ : List (List Int)) : M Bool :=
  M.ite ((decide ((a_.length : Int) < 1)) || (decide (10 < (a_.length : Int)))) (M.ret false) (M.bind (M.forI 0 (a_.length : Int) (fun s => .inl s) (fun i1 => (fun (_ : Unit) => M.bind (M.idx a_ i1) (fun x3 => M.bind (spec_l02Vector x3) (fun x4 => M.bind (M.ite (!x4) (M.ret true) (M.bind (M.idx a_ i1) (fun x6 => M.bind (M.idx a_ 0) (fun x7 => M.ret ((x6.length : Int) != (x7.length : Int)))))) (fun x5 => M.ite x5 (M.ret (.inr (.inr false))) (M.ret (.inl ()))))))) ()) (fun x2 => M.cont x2 (fun _ => M.ret true) (fun r => M.ret r)))

def spec_l02Square (a_ : List (List Int)) : M Bool :=
  M.bind (spec_IsMatrix a_) (fun x1 => M.bind (M.ite x1 (M.bind (M.idx a_ 0) (fun x3 => M.ret ((a_.length : Int) == (x3.length : Int)))) (M.ret false)) (fun x2 => M.ret x2))

def spec_IsDual (a_ : List (List Int)) (u : List Int) (v_ : List Int) : M Bool :=
  M.bind (spec_l02Square a_) (fun x1 => M.bind (M.ite (((!x1) || ((u.length : Int) != (a_.length : Int))) || ((v_.length : Int) != (a_.length : Int))) (M.ret true) (M.bind (spec_l01All u true) (fun x5 => M.ret (!x5)))) (fun x4 => M.bind (M.ite x4 (M.ret true) (M.bind (spec_l01All v_ true) (fun x7 => M.ret (!x7)))) (fun x6 => M.ite x6 (M.ret false) (M.bind (M.forI 0 (a_.length : Int) (fun s => .inl s) (fun i1 => (fun (_ : Unit) => M.bind (M.forI 0 (a_.length : Int) (fun s => .inl s) (fun i2 => (fun (_ : Unit) => M.bind (M.idx a_ i1) (fun x10 => M.bind (M.idx x10 i2) (fun x11 => M.bind (M.ite (x11 != (-1000000000000000)) (M.bind (M.idx u i1) (fun x13 => M.bind (M.idx v_ i2) (fun x14 => M.bind (M.idx a_ i1) (fun x15 => M.bind (M.idx x15 i2) (fun x16 => M.ret (decide ((w64 (x13 + x14)) < x16))))))) (M.ret false)) (fun x12 => M.ite x12 (M.ret (.inr (.inr false))) (M.ret (.inl ()))))))) ()) (fun x9 => M.cont x9 (fun _ => M.ret (.inl ())) (fun r => M.ret (.inr (.inr r)))))) ()) (fun x8 => M.cont x8 (fun _ => M.ret true) (fun r => M.ret r))))))

def impl_IsMatrix_1 (row : List Int) (z0 : List (List Int)) : M Bool :=
  M.bind (M.idx z0 0) (fun x1 => M.bind (M.ite ((row.length : Int) != (x1.length : Int)) (M.ret true) (M.bind (impl_areValues row) (fun x3 => M.ret (!x3)))) (fun x2 => M.ret x2))

def slices_IndexFunc_row_F_impl_IsMatrix_1 (s_ : List (List Int)) (f0 : List (List Int)) : M Int :=
  M.bind (M.forI 0 (s_.length : Int) (fun s => .inl s) (fun i1 => (fun (_ : Unit) => M.bind (M.idx s_ i1) (fun x2 => M.bind (impl_IsMatrix_1 x2 f0) (fun x3 => M.ite x3 (M.ret (.inr (.inr i1))) (M.ret (.inl ())))))) ()) (fun x1 => M.cont x1 (fun _ => M.ret (-1)) (fun r => M.ret r))

def slices_ContainsFunc_row_F_impl_IsMatrix_1 (s_ : List (List Int)) (f0 : List (List Int)) : M Bool :=
  M.bind (slices_IndexFunc_row_F_impl_IsMatrix_1 s_ f0) (fun x1 => M.ret (decide (0 ≤ x1)))

def impl_IsMatrix (a_ : List (List Int)) : M Bool :=
  M.bind (impl_within (a_.length : Int) 1 10) (fun x1 => M.bind (M.ite (!x1) (M.ret true) (M.bind (M.idx a_ 0) (fun x3 => M.bind (impl_within (x3.length : Int) 1 10) (fun x4 => M.ret (!x4))))) (fun x2 => M.ite x2 (M.ret false) (M.bind (slices_ContainsFunc_row_F_impl_IsMatrix_1 a_ a_) (fun x5 => M.ret (!x5)))))

def impl_isSquare (a_ : List (List Int)) : M Bool :=
  M.bind (impl_IsMatrix a_) (fun x1 => M.bind (M.ite x1 (M.bind (M.idx a_ 0) (fun x3 => M.ret ((a_.length : Int) == (x3.length : Int)))) (M.ret false)) (fun x2 => M.ret x2))

def impl_allWithin (list : List Int) (low : Int) (high : Int) : M Bool :=
  M.bind (M.forI 0 (list.length : Int) (fun s => .inl s) (fun i1 => (fun (_ : Unit) => M.bind (M.idx list i1) (fun x2 => M.bind (impl_within x2 low high) (fun x3 => M.ite (!x3) (M.ret (.inr (.inr false))) (M.ret (.inl ())))))) ()) (fun x1 => M.cont x1 (fun _ => M.ret true) (fun r => M.ret r))

def impl_IsDual (a_ : List (List Int)) (u : List Int) (v_ : List Int) : M Bool :=
  M.bind (impl_isSquare a_) (fun x1 => M.bind (M.ite (((!x1) || ((u.length : Int) != (a_.length : Int))) || ((v_.length : Int) != (a_.length : Int))) (M.ret true) (M.bind (impl_allWithin u (-1000000) 1000000) (fun x5 => M.ret (!x5)))) (fun x4 => M.bind (M.ite x4 (M.ret true) (M.bind (impl_allWithin v_ (-1000000) 1000000) (fun x7 => M.ret (!x7)))) (fun x6 => M.ite x6 (M.ret false) (M.bind (M.forI 0 (a_.length : Int) (fun s => .inl s) (fun i1 => (fun (_ : Unit) => M.bind (M.idx a_ i1) (fun x9 => M.bind (M.forI 0 (x9.length : Int) (fun s => .inl s) (fun i2 => (fun (_ : Unit) => M.bind (M.idx x9 i2) (fun x11 => M.bind (M.ite (x11 != (-1000000000000000)) (M.bind (M.idx u i1) (fun x13 => M.bind (M.idx v_ i2) (fun x14 => M.ret (decide ((w64 (x13 + x14)) < x11))))) (M.ret false)) (fun x12 => M.ite x12 (M.ret (.inr (.inr false))) (M.ret (.inl ())))))) ()) (fun x10 => M.cont x10 (fun _ => M.ret (.inl ())) (fun r => M.ret (.inr (.inr r))))))) ()) (fun x8 => M.cont x8 (fun _ => M.ret true) (fun r => M.ret r))))))

def laws_eqInt64SS (a_ : List (List Int)) (b : List (List Int)) : M Bool :=
  M.ite ((a_.length : Int) != (b.length : Int)) (M.ret false) (M.bind (M.forI 0 (a_.length : Int) (fun s => .inl s) (fun i1 => (fun (_ : Unit) => M.bind (M.idx a_ i1) (fun x2 => M.bind (M.idx b i1) (fun x3 => M.bind (laws_eqInt64S x2 x3) (fun x4 => M.ite (!x4) (M.ret (.inr (.inr false))) (M.ret (.inl ()))))))) ()) (fun x1 => M.cont x1 (fun _ => M.ret true) (fun r => M.ret r)))

def laws_FnExactIsDual (aA : List (List Int)) (aU : List Int) (aV : List Int) : M Bool :=
  M.ite (decide (1048576 < (aU.length : Int))) (M.ret true) (M.ite (decide (1048576 < (aV.length : Int))) (M.ret true) (M.bind (laws_szInt64SS aA 1048576) (fun x1 => M.ite (decide (x1 < 0)) (M.ret true) (M.bind (laws_toInt64SS aA) (fun x2 => M.bind (laws_toInt64S aU) (fun x3 => M.bind (laws_toInt64S aV) (fun x4 => M.bind (spec_IsDual x2 x3 x4) (fun x5 => M.bind (laws_toInt64SS aA) (fun x6 => M.bind (laws_toInt64S aU) (fun x7 => M.bind (laws_toInt64S aV) (fun x8 => M.bind (impl_IsDual x6 x7 x8) (fun x9 => M.ite (!(x9 == x5)) (M.ret false) (M.bind (laws_toInt64SS aA) (fun x10 => M.bind (laws_eqInt64SS x6 x10) (fun x11 => M.ite (!x11) (M.ret false) (M.bind (laws_toInt64S aU) (fun x12 => M.bind (laws_eqInt64S x7 x12) (fun x13 => M.ite (!x13) (M.ret false) (M.bind (laws_toInt64S aV) (fun x14 => M.bind (laws_eqInt64S x8 x14) (fun x15 => M.ite (!x15) (M.ret false) (M.ret true))))))))))))))))))))))

end Go.Proofs.Ytdgehhbgjmgjjaa
