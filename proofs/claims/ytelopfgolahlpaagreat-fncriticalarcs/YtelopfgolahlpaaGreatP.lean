/-
  Plain programs: what each Go function that the law reaches computes, on lists and integers.
  Conditions: None beyond the given statement.
-/
import Derived.Test.YtelopfgolahlpaaGreatM
namespace Go.Proofs.YtelopfgolahlpaaGreat
open Go
structure TRatio where
  Num : Int
  Den : Int
structure TL01source where
  code : List Int
  at_ : Int
  seed : Int
structure TBoundserror where
  x : Int
  y : Int
  signed : Bool
  code : Int
structure TErroraddressstring where
  msg : ByteArray
  addr : Int
def spec_l01In (n_ : Int) (low : Int) (high : Int) : M Bool :=
  M.ret ((decide (low ≤ n_)) && (decide (n_ ≤ high)))

def impl_within (n_ : Int) (low : Int) (high : Int) : M Bool :=
  M.ret ((decide (low ≤ n_)) && (decide (n_ ≤ high)))

def spec_l01Own (list : List Int) : M ((List Int)) :=
  M.bind (M.app ([] : List Int) list) (fun l1 => M.ret l1)

def spec_l02Bottom (m_ : Int) (n_ : Int) : M ((List (List Int))) :=
  M.bind (M.forI 0 m_ (fun s => s) (fun _ => (fun (s1 : (List (List Int))) => M.bind (M.forI 0 n_ (fun s => s) (fun _ => (fun (s2 : (List Int)) => M.bind (M.app s2 ([(-1000000000000000)] : List Int)) (fun l1 => M.ret (.inl l1)))) ([] : List Int)) (fun x2 => M.bind (M.app s1 [x2]) (fun l2 => M.ret (.inl l2))))) ([] : List (List Int))) (fun x1 => M.ret x1)

def slices_Index_int (s_ : List Int) (v_ : Int) : M Int :=
  M.bind (M.forI 0 (s_.length : Int) (fun s => .inl s) (fun i1 => (fun (_ : Unit) => M.bind (M.idx s_ i1) (fun x2 => M.ite (v_ == x2) (M.ret (.inr (.inr i1))) (M.ret (.inl ()))))) ()) (fun x1 => M.cont x1 (fun _ => M.ret (-1)) (fun r => M.ret r))

def slices_Contains_int (s_ : List Int) (v_ : Int) : M Bool :=
  M.bind (slices_Index_int s_ v_) (fun x1 => M.ret (decide (0 ≤ x1)))

def spec_l01Has (list : List Int) (x_ : Int) : M Bool :=
  M.bind (M.forI 0 (list.length : Int) (fun s => .inl s) (fun i1 => (fun (_ : Unit) => M.bind (M.idx list i1) (fun x2 => M.ite (x2 == x_) (M.ret (.inr (.inr true))) (M.ret (.inl ()))))) ()) (fun x1 => M.cont x1 (fun _ => M.ret false) (fun r => M.ret r))

def spec_l03Grow_R : Nat → (List (List Int)) → (List Int) → Int → Int → M ((List Int))
  | 0, _, _, _, _ => M.fail
  | kR + 1, a_, path, weight, over => M.bind (M.idx path 0) (fun x1 => M.bind (M.idx path (w64 ((path.length : Int) - 1))) (fun x2 => M.bind (M.idx a_ x1) (fun x3 => M.bind (M.idx x3 x2) (fun x4 => M.bind (M.ite (x4 != (-1000000000000000)) (M.bind (M.idx a_ x1) (fun x6 => M.bind (M.idx x6 x2) (fun x7 => M.ret (decide (over < (w64 (weight + x7))))))) (M.ret false)) (fun x5 => M.ite x5 (M.ret path) (M.bind (M.forI (w64 (x1 + 1)) (a_.length : Int) (fun s => .inl s) (fun i1 => (fun (_ : Unit) => M.bind (M.idx a_ i1) (fun x9 => M.bind (M.idx x9 x2) (fun x10 => M.bind (M.ite (x10 == (-1000000000000000)) (M.ret true) (M.bind (spec_l01Has path i1) (fun x12 => M.ret x12))) (fun x11 => M.ite x11 (M.ret (.inl ())) (M.bind (M.bind (M.idx a_ i1) (fun x15 => M.bind (M.idx x15 x2) (fun x16 => M.bind (spec_l01Own path) (fun x17 => M.bind (M.app x17 ([i1] : List Int)) (fun l1 => M.bind (spec_l03Grow_R kR a_ l1 (w64 (weight + x16)) over) (fun x18 => M.ret x18)))))) (fun (s3 : (List Int)) => M.ite (decide (0 < (s3.length : Int))) (M.ret (.inr (.inr s3))) (M.ret (.inl ()))))))))) ()) (fun x8 => M.cont x8 (fun _ => M.ret ([] : List Int)) (fun r => M.ret r))))))))

def spec_l03Grow (a_ : List (List Int)) (path : List Int) (weight : Int) (over : Int) : M ((List Int)) := fun n => spec_l03Grow_R n a_ path weight over n

def spec_l03Over (a_ : List (List Int)) (over : Int) : M ((List Int)) :=
  M.bind (M.forI 0 (a_.length : Int) (fun s => .inl s) (fun i1 => (fun (_ : Unit) => M.bind (spec_l03Grow a_ ([i1] : List Int) 0 over) (fun x2 => M.ite (decide (0 < (x2.length : Int))) (M.ret (.inr (.inr x2))) (M.ret (.inl ()))))) ()) (fun x1 => M.cont x1 (fun _ => M.ret ([] : List Int)) (fun r => M.ret r))

def spec_l01Finite (a_ : Int) : M Bool :=
  M.bind (spec_l01In a_ (-1000000) 1000000) (fun x1 => M.ret x1)

def spec_IsValue (a_ : Int) : M Bool :=
  M.bind (M.ite (a_ == (-1000000000000000)) (M.ret true) (M.bind (spec_l01Finite a_) (fun x2 => M.ret x2))) (fun x1 => M.ret x1)

def spec_l01All (list : List Int) (finite : Bool) : M Bool :=
  M.bind (M.forI 0 (list.length : Int) (fun s => .inl s) (fun i1 => (fun (_ : Unit) => M.bind (M.idx list i1) (fun x2 => M.bind (spec_IsValue x2) (fun x3 => M.bind (M.ite (!x3) (M.ret true) (M.bind (M.ite finite (M.bind (M.idx list i1) (fun x6 => M.ret (x6 == (-1000000000000000)))) (M.ret false)) (fun x5 => M.ret x5))) (fun x4 => M.ite x4 (M.ret (.inr (.inr false))) (M.ret (.inl ()))))))) ()) (fun x1 => M.cont x1 (fun _ => M.ret true) (fun r => M.ret r))

def impl_isFinite (n_ : Int) : M Bool :=
  M.bind (impl_within n_ (-1000000) 1000000) (fun x1 => M.ret x1)

def impl_IsValue (a_ : Int) : M Bool :=
  M.bind (M.ite (a_ == (-1000000000000000)) (M.ret true) (M.bind (impl_isFinite a_) (fun x2 => M.ret x2))) (fun x1 => M.ret x1)

def impl_areValues_1 (n_ : Int) : M Bool :=
  M.bind (impl_IsValue n_) (fun x1 => M.ret (!x1))

def slices_IndexFunc_int_F_impl_areValues_1 (s_ : List Int) : M Int :=
  M.bind (M.forI 0 (s_.length : Int) (fun s => .inl s) (fun i1 => (fun (_ : Unit) => M.bind (M.idx s_ i1) (fun x2 => M.bind (impl_areValues_1 x2) (fun x3 => M.ite x3 (M.ret (.inr (.inr i1))) (M.ret (.inl ())))))) ()) (fun x1 => M.cont x1 (fun _ => M.ret (-1)) (fun r => M.ret r))

def slices_ContainsFunc_int_F_impl_areValues_1 (s_ : List Int) : M Bool :=
  M.bind (slices_IndexFunc_int_F_impl_areValues_1 s_) (fun x1 => M.ret (decide (0 ≤ x1)))

def impl_areValues (list : List Int) : M Bool :=
  M.bind (slices_ContainsFunc_int_F_impl_areValues_1 list) (fun x1 => M.ret (!x1))

def laws_eqInt64S (a_ : List Int) (b : List Int) : M Bool :=
  M.ite ((a_.length : Int) != (b.length : Int)) (M.ret false) (M.bind (M.forI 0 (a_.length : Int) (fun s => .inl s) (fun i1 => (fun (_ : Unit) => M.bind (M.idx a_ i1) (fun x2 => M.bind (M.idx b i1) (fun x3 => M.ite (x2 != x3) (M.ret (.inr (.inr false))) (M.ret (.inl ())))))) ()) (fun x1 => M.cont x1 (fun _ => M.ret true) (fun r => M.ret r)))

def spec_l01Times (a_ : Int) (b : Int) : M Int :=
  M.ite ((a_ == (-1000000000000000)) || (b == (-1000000000000000))) (M.ret (-1000000000000000)) (M.ret (w64 (a_ + b)))

def impl_times (a_ : Int) (b : Int) : M Int :=
  M.ite ((a_ == (-1000000000000000)) || (b == (-1000000000000000))) (M.ret (-1000000000000000)) (M.ret (w64 (a_ + b)))

def spec_l02Vector (x_ : List Int) : M Bool :=
  M.bind (spec_l01In (x_.length : Int) 1 10) (fun x1 => M.bind (M.ite x1 (M.bind (spec_l01All x_ false) (fun x3 => M.ret x3)) (M.ret false)) (fun x2 => M.ret x2))

def spec_IsMatrix (a_ : List (List Int)) : M Bool :=
  M.ite ((decide ((a_.length : Int) < 1)) || (decide (10 < (a_.length : Int)))) (M.ret false) (M.bind (M.forI 0 (a_.length : Int) (fun s => .inl s) (fun i1 => (fun (_ : Unit) => M.bind (M.idx a_ i1) (fun x3 => M.bind (spec_l02Vector x3) (fun x4 => M.bind (M.ite (!x4) (M.ret true) (M.bind (M.idx a_ i1) (fun x6 => M.bind (M.idx a_ 0) (fun x7 => M.ret ((x6.length : Int) != (x7.length : Int)))))) (fun x5 => M.ite x5 (M.ret (.inr (.inr false))) (M.ret (.inl ()))))))) ()) (fun x2 => M.cont x2 (fun _ => M.ret true) (fun r => M.ret r)))

def spec_l02Square (a_ : List (List Int)) : M Bool :=
  M.bind (spec_IsMatrix a_) (fun x1 => M.bind (M.ite x1 (M.bind (M.idx a_ 0) (fun x3 => M.ret ((a_.length : Int) == (x3.length : Int)))) (M.ret false)) (fun x2 => M.ret x2))

def impl_IsMatrix_1 (row : List Int) (z0 : List (List Int)) : M Bool :=
  M.bind (M.idx z0 0) (fun x1 => M.bind (M.ite ((row.length : Int) != (x1.length : Int)) (M.ret true) (M.bind (impl_areValues row) (fun x3 => M.ret (!x3)))) (fun x2 => M.ret x2))

def slices_IndexFunc_row_F_impl_IsMatrix_1 (s_ : List (List Int)) (f0 : List (List Int)) : M Int :=
  M.bind (M.forI 0 (s_.length : Int) (fun s => .inl s) (fun i1 => (fun (_ : Unit) => M.bind (M.idx s_ i1) (fun x2 => M.bind (impl_IsMatrix_1 x2 f0) (fun x3 => M.ite x3 (M.ret (.inr (.inr i1))) (M.ret (.inl ())))))) ()) (fun x1 => M.cont x1 (fun _ => M.ret (-1)) (fun r => M.ret r))

def slices_ContainsFunc_row_F_impl_IsMatrix_1 (s_ : List (List Int)) (f0 : List (List Int)) : M Bool :=
  M.bind (slices_IndexFunc_row_F_impl_IsMatrix_1 s_ f0) (fun x1 => M.ret (decide (0 ≤ x1)))

def impl_IsMatrix (a_ : List (List Int)) : M Bool :=
  M.bind (impl_within (a_.length : Int) 1 10) (fun x1 => M.bind (M.ite (!x1) (M.ret true) (M.bind (M.idx a_ 0) (fun x3 => M.bind (impl_within (x3.length : Int) 1 10) (fun x4 => M.ret (!x4))))) (fun x2 => M.ite x2 (M.ret false) (M.bind (slices_ContainsFunc_row_F_impl_IsMatrix_1 a_ a_) (fun x5 => M.ret (!x5)))))

def impl_isSquare (a_ : List (List Int)) : M Bool :=
  M.bind (impl_IsMatrix a_) (fun x1 => M.bind (M.ite x1 (M.bind (M.idx a_ 0) (fun x3 => M.ret ((a_.length : Int) == (x3.length : Int)))) (M.ret false)) (fun x2 => M.ret x2))

def spec_l01Same (a_ : List Int) (b : List Int) : M Bool :=
  M.ite ((a_.length : Int) != (b.length : Int)) (M.ret false) (M.bind (M.forI 0 (a_.length : Int) (fun s => .inl s) (fun i1 => (fun (_ : Unit) => M.bind (M.idx a_ i1) (fun x2 => M.bind (M.idx b i1) (fun x3 => M.ite (x2 != x3) (M.ret (.inr (.inr false))) (M.ret (.inl ())))))) ()) (fun x1 => M.cont x1 (fun _ => M.ret true) (fun r => M.ret r)))

def laws_big (code : List Int) : M Bool :=
  M.ret (decide (4096 < (code.length : Int)))

def spec_l01From (code : List Int) : M TL01source :=
  M.bind (M.loop (fun (s1 : Int × Int) => M.ite ((decide (s1.2 < (code.length : Int))) && (decide (s1.2 < 64))) (M.bind (M.idx code s1.2) (fun x3 => M.ret (.inl (((w64 ((w64 (s1.1 * 67)) + (w64 (x3)))).tmod 2147483647), (w64 (s1.2 + 1)))))) (M.ret (.inr (s1.1, s1.2)))) (61403, 0)) (fun x1 => M.ret (⟨code, 0, x1.1⟩ : TL01source))

def spec_l01Next (s_ : TL01source) (n_ : Int) : M (Int × TL01source) :=
  M.ite (decide (n_ ≤ 1)) (M.ret (0, s_)) (M.bind (M.ite (decide (s_.at_ < (s_.code.length : Int))) (M.bind (M.idx s_.code s_.at_) (fun x1 => M.ite ((decide (n_ ≤ 256)) && (((w64 (s_.at_ + 1)).tmod 2) == 0)) (M.bind (M.idx s_.code (w64 ((w64 (s_.at_ + 1)) - 1))) (fun x3 => M.ret ((w64 (x3)), (w64 (s_.at_ + 1))))) (M.ret ((w64 ((w64 (((w64 ((w64 (s_.seed * 48271)) + 59)).tmod 2147483647).tdiv 31)) + (w64 (x1)))), (w64 (s_.at_ + 1)))))) (M.ret ((w64 (((w64 ((w64 (s_.seed * 48271)) + 59)).tmod 2147483647).tdiv 31)), s_.at_))) (fun (s1 : Int × Int) => M.bind (M.guard (n_ != 0)) (fun _ => M.ret ((s1.1.tmod n_), (⟨s_.code, s1.2, ((w64 ((w64 (s_.seed * 48271)) + 59)).tmod 2147483647)⟩ : TL01source)))))

def spec_l01Pick (s_ : TL01source) (list : List Int) : M (Int × TL01source × (List Int)) :=
  M.bind (spec_l01Next s_ (list.length : Int)) (fun x1 => M.bind (M.idx list x1.1) (fun x2 => M.ret (x2, (⟨s_.code, x1.2.at_, x1.2.seed⟩ : TL01source), list)))

def laws_likeInts (a_ : List Int) (b : List Int) : M Bool :=
  M.ite ((a_.length : Int) != (b.length : Int)) (M.ret false) (M.bind (M.forI 0 (a_.length : Int) (fun s => .inl s) (fun i1 => (fun (_ : Unit) => M.bind (M.idx a_ i1) (fun x2 => M.bind (M.idx b i1) (fun x3 => M.ite (x2 != x3) (M.ret (.inr (.inr false))) (M.ret (.inl ())))))) ()) (fun x1 => M.cont x1 (fun _ => M.ret true) (fun r => M.ret r)))

def spec_l01DrawValue (s_ : TL01source) : M (Int × TL01source) :=
  M.bind (spec_l01Next s_ 24) (fun x1 => M.bind (M.ite (x1.1 == 0) (M.ret (x1.1 == 0)) (M.ite (x1.1 == 1) (M.ret (x1.1 == 1)) (M.ret (x1.1 == 2)))) (fun (s1 : Bool) => M.ite s1 (M.ret ((-1000000000000000), (⟨s_.code, x1.2.at_, x1.2.seed⟩ : TL01source))) (M.ite (x1.1 == 3) (M.bind (spec_l01Pick (⟨s_.code, x1.2.at_, x1.2.seed⟩ : TL01source) ([1000000, 1000001, (-1000000), (-1000001), (-999999999999999), (-1000000000000001), 9223372036854775807] : List Int)) (fun x2 => M.ret (x2.1, (⟨s_.code, x2.2.1.at_, x2.2.1.seed⟩ : TL01source)))) (M.ite (x1.1 == 4) (M.bind (spec_l01Next (⟨s_.code, x1.2.at_, x1.2.seed⟩ : TL01source) 2000) (fun x3 => M.ret ((w64 ((w64 (x3.1 - 1000)) * 701)), (⟨s_.code, x3.2.at_, x3.2.seed⟩ : TL01source)))) (M.bind (spec_l01Next (⟨s_.code, x1.2.at_, x1.2.seed⟩ : TL01source) 41) (fun x4 => M.ret ((w64 (x4.1 - 20)), (⟨s_.code, x4.2.at_, x4.2.seed⟩ : TL01source))))))))

def spec_l02DrawSize (s_ : TL01source) (m_ : Int) (n_ : Int) : M ((List (List Int)) × TL01source) :=
  M.bind (spec_l02Bottom m_ n_) (fun x1 => M.bind (spec_l01Pick s_ ([2, 3, 5] : List Int)) (fun x2 => M.bind (M.forI 0 m_ (fun s => s) (fun i1 => (fun (s1 : Int × Int × (List (List Int))) => M.bind (M.forI 0 n_ (fun s => s) (fun i2 => (fun (s2 : Int × Int × (List (List Int))) => M.bind (spec_l01Next (⟨s_.code, s2.1, s2.2.1⟩ : TL01source) x2.1) (fun x5 => M.bind (M.ite (decide (0 < x5.1)) (M.bind (M.idx s2.2.2 i1) (fun x6 => M.bind (spec_l01Next (⟨s_.code, x5.2.at_, x5.2.seed⟩ : TL01source) 26) (fun x7 => M.bind (M.idx x6 i2) (fun x8 => M.bind (M.upd x6 i2 (w64 (x7.1 - 10))) (fun l1 => M.ret (x7.2.at_, x7.2.seed, (s2.2.2.set i1.toNat l1))))))) (M.ret (x5.2.at_, x5.2.seed, s2.2.2))) (fun (s3 : Int × Int × (List (List Int))) => M.ret (.inl (s3.1, s3.2.1, s3.2.2)))))) (s1.1, s1.2.1, s1.2.2)) (fun x4 => M.ret (.inl (x4.1, x4.2.1, x4.2.2))))) (x2.2.1.at_, x2.2.1.seed, x1)) (fun x3 => M.bind (spec_l01Next (⟨s_.code, x3.1, x3.2.1⟩ : TL01source) 60) (fun x9 => M.ite (x9.1 == 0) (M.bind (M.idx x3.2.2 0) (fun x10 => M.bind (spec_l01DrawValue (⟨s_.code, x9.2.at_, x9.2.seed⟩ : TL01source)) (fun x11 => M.bind (M.idx x10 0) (fun x12 => M.bind (M.upd x10 0 x11.1) (fun l2 => M.ret ((x3.2.2.set 0 l2), (⟨s_.code, x11.2.at_, x11.2.seed⟩ : TL01source))))))) (M.ite (x9.1 == 1) (M.bind (M.app x3.2.2 [([] : List Int)]) (fun l3 => M.ret (l3, (⟨s_.code, x9.2.at_, x9.2.seed⟩ : TL01source)))) (M.ite (x9.1 == 2) (M.ret (([] : List (List Int)), (⟨s_.code, x9.2.at_, x9.2.seed⟩ : TL01source))) (M.ret (x3.2.2, (⟨s_.code, x9.2.at_, x9.2.seed⟩ : TL01source)))))))))

def spec_l02DrawSquare (s_ : TL01source) : M ((List (List Int)) × TL01source) :=
  M.bind (spec_l01Next s_ 5) (fun x1 => M.bind (spec_l02DrawSize (⟨s_.code, x1.2.at_, x1.2.seed⟩ : TL01source) (w64 (1 + x1.1)) (w64 (1 + x1.1))) (fun x2 => M.ret (x2.1, (⟨s_.code, x2.2.at_, x2.2.seed⟩ : TL01source))))

def spec_l01Divisor (a_ : Int) (b : Int) : M Int :=
  M.bind (M.loop (fun (s1 : Int × Int) => M.ite (decide (0 < s1.2)) (M.bind (M.guard (s1.2 != 0)) (fun _ => M.ret (.inl (s1.2, (s1.1.tmod s1.2))))) (M.ret (.inr (s1.1, s1.2)))) ((mx a_ (w64 (0 - a_))), (mx b (w64 (0 - b))))) (fun x1 => M.ret x1.1)

def spec_l01Ratio (num : Int) (den : Int) : M TRatio :=
  M.bind (M.ite (decide (den < 0)) (M.ret ((w64 (0 - num)), (w64 (0 - den)))) (M.ret (num, den))) (fun (s1 : Int × Int) => M.bind (spec_l01Divisor s1.1 s1.2) (fun x1 => M.bind (M.guard (x1 != 0)) (fun _ => M.bind (M.guard (x1 != 0)) (fun _ => M.ret (⟨(w64 (s1.1.tdiv x1)), (w64 (s1.2.tdiv x1))⟩ : TRatio)))))

def impl_absOf (n_ : Int) : M Int :=
  M.ite (decide (n_ < 0)) (M.ret (w64 (0 - n_))) (M.ret n_)

def impl_divisorOf (a_ : Int) (b : Int) : M Int :=
  M.bind (M.loop (fun (s1 : Int × Int) => M.ite (decide (0 < s1.2)) (M.bind (M.guard (s1.2 != 0)) (fun _ => M.ret (.inl (s1.2, (s1.1.tmod s1.2))))) (M.ret (.inr (s1.1, s1.2)))) (a_, b)) (fun x1 => M.ret x1.1)

def impl_ratioOf (num : Int) (den : Int) : M TRatio :=
  M.bind (M.ite (decide (den < 0)) (M.ret ((w64 (0 - num)), (w64 (0 - den)))) (M.ret (num, den))) (fun (s1 : Int × Int) => M.bind (impl_absOf s1.1) (fun x1 => M.bind (impl_divisorOf x1 s1.2) (fun x2 => M.bind (M.guard (x2 != 0)) (fun _ => M.bind (M.guard (x2 != 0)) (fun _ => M.ret (⟨(w64 (s1.1.tdiv x2)), (w64 (s1.2.tdiv x2))⟩ : TRatio))))))

def impl_timesVector (a_ : List (List Int)) (x_ : List Int) : M ((List Int)) :=
  M.bind (M.make (a_.length : Int) 0) (fun l1 => M.bind (M.forI 0 (a_.length : Int) (fun s => s) (fun i1 => (fun (s1 : (List Int)) => M.bind (M.idx a_ i1) (fun x2 => M.bind (M.idx s1 i1) (fun x3 => M.bind (M.upd s1 i1 (-1000000000000000)) (fun l2 => M.bind (M.forI 0 (x2.length : Int) (fun s => s) (fun i2 => (fun (s2 : (List Int)) => M.bind (M.idx x2 i2) (fun x5 => M.bind (M.idx s2 i1) (fun x6 => M.bind (M.idx x_ i2) (fun x7 => M.bind (impl_times x5 x7) (fun x8 => M.bind (M.idx s2 i1) (fun x9 => M.bind (M.upd s2 i1 (mx x6 x8)) (fun l3 => M.ret (.inl l3))))))))) l2) (fun x4 => M.ret (.inl x4))))))) l1) (fun x1 => M.ret x1))

def cmp_isNaN_i (x_ : Int) : M Bool :=
  M.ret (x_ != x_)

def cmp_Compare_i (x_ : Int) (y_ : Int) : M Int :=
  M.bind (cmp_isNaN_i x_) (fun x1 => M.bind (cmp_isNaN_i y_) (fun x2 => M.ite x1 (M.ite x2 (M.ret 0) (M.ret (-1))) (M.ite x2 (M.ret 1) (M.ite (decide (x_ < y_)) (M.ret (-1)) (M.ite (decide (y_ < x_)) (M.ret 1) (M.ret 0))))))

def impl_compareRatios (a_ : TRatio) (b : TRatio) : M Int :=
  M.bind (cmp_Compare_i (w64 (a_.Num * b.Den)) (w64 (b.Num * a_.Den))) (fun x1 => M.ret x1)

def impl_cycleMean (a_ : List (List Int)) : M (TRatio × Bool) :=
  M.bind (M.make (a_.length : Int) 0) (fun l1 => M.bind (M.forI 0 (a_.length : Int) (fun s => s) (fun i1 => (fun (s1 : (List (List Int))) => M.bind (M.idx s1 i1) (fun x2 => M.bind (impl_timesVector a_ x2) (fun x3 => M.bind (M.app s1 [x3]) (fun l2 => M.ret (.inl l2)))))) [l1]) (fun x1 => M.bind (M.forI 0 (a_.length : Int) (fun s => s) (fun i2 => (fun (s2 : TRatio × Bool) => M.bind (M.bind (M.idx x1 (a_.length : Int)) (fun x5 => M.bind (M.idx x5 i2) (fun x6 => M.ite (x6 == (-1000000000000000)) (M.ret (s2.1, s2.2)) (M.bind (M.forI 0 (a_.length : Int) (fun s => s) (fun i3 => (fun (s4 : TRatio × Bool) => M.bind (M.bind (M.idx x1 i3) (fun x8 => M.bind (M.idx x8 i2) (fun x9 => M.ite (x9 == (-1000000000000000)) (M.ret (s4.1, s4.2)) (M.bind (M.idx x1 (a_.length : Int)) (fun x10 => M.bind (M.idx x10 i2) (fun x11 => M.bind (M.idx x1 i3) (fun x12 => M.bind (M.idx x12 i2) (fun x13 => M.bind (impl_ratioOf (w64 (x11 - x13)) (w64 ((a_.length : Int) - i3))) (fun x14 => M.bind (M.ite (!s4.2) (M.ret true) (M.bind (impl_compareRatios x14 s4.1) (fun x16 => M.ret (decide (x16 < 0))))) (fun x15 => M.ite x15 (M.ret (x14, true)) (M.ret (s4.1, s4.2)))))))))))) (fun (s5 : TRatio × Bool) => M.ret (.inl (s5.1, s5.2))))) ((⟨0, 0⟩ : TRatio), false)) (fun x7 => M.bind (M.ite (!s2.2) (M.ret true) (M.bind (impl_compareRatios x7.1 s2.1) (fun x18 => M.ret (decide (0 < x18))))) (fun x17 => M.ite x17 (M.ret (x7.1, true)) (M.ret (s2.1, s2.2)))))))) (fun (s3 : TRatio × Bool) => M.ret (.inl (s3.1, s3.2))))) ((⟨0, 0⟩ : TRatio), false)) (fun x4 => M.ret (x4.1, x4.2))))

def spec_l02Unit (n_ : Int) : M ((List (List Int))) :=
  M.bind (spec_l02Bottom n_ n_) (fun x1 => M.bind (M.forI 0 n_ (fun s => s) (fun i1 => (fun (s1 : (List (List Int))) => M.bind (M.idx s1 i1) (fun x3 => M.bind (M.idx x3 i1) (fun x4 => M.bind (M.upd x3 i1 0) (fun l1 => M.ret (.inl (s1.set i1.toNat l1))))))) x1) (fun x2 => M.ret x2))

def spec_l02Multiply (a_ : List (List Int)) (b : List (List Int)) : M ((List (List Int))) :=
  M.bind (M.idx b 0) (fun x1 => M.bind (spec_l02Bottom (a_.length : Int) (x1.length : Int)) (fun x2 => M.bind (M.forI 0 (a_.length : Int) (fun s => s) (fun i1 => (fun (s1 : (List (List Int))) => M.bind (M.loop (fun (s2 : (List (List Int)) × Int) => M.bind (M.idx b 0) (fun x5 => M.ite (decide (s2.2 < (x5.length : Int))) (M.bind (M.forI 0 (b.length : Int) (fun s => s) (fun i2 => (fun (s3 : (List (List Int))) => M.bind (M.idx s3 i1) (fun x7 => M.bind (M.idx s3 i1) (fun x8 => M.bind (M.idx x8 s2.2) (fun x9 => M.bind (M.idx a_ i1) (fun x10 => M.bind (M.idx x10 i2) (fun x11 => M.bind (M.idx b i2) (fun x12 => M.bind (M.idx x12 s2.2) (fun x13 => M.bind (spec_l01Times x11 x13) (fun x14 => M.bind (M.idx x7 s2.2) (fun x15 => M.bind (M.upd x7 s2.2 (mx x9 x14)) (fun l1 => M.ret (.inl (s3.set i1.toNat l1)))))))))))))) s2.1) (fun x6 => M.ret (.inl (x6, (w64 (s2.2 + 1)))))) (M.ret (.inr (s2.1, s2.2))))) (s1, 0)) (fun x4 => M.ret (.inl x4.1)))) x2) (fun x3 => M.ret x3)))

def impl_unitMatrix_1 (i : Int) (j : Int) : M Int :=
  M.ite (i == j) (M.ret 0) (M.ret (-1000000000000000))

def impl_matrixBy_F_impl_unitMatrix_1 (m_ : Int) (n_ : Int) : M ((List (List Int))) :=
  M.bind (M.make m_ []) (fun l1 => M.bind (M.forI 0 (l1.length : Int) (fun s => s) (fun i1 => (fun (s1 : (List (List Int))) => M.bind (M.make n_ 0) (fun l2 => M.bind (M.idx s1 i1) (fun x2 => M.bind (M.upd s1 i1 l2) (fun l3 => M.bind (M.idx l3 i1) (fun x3 => M.bind (M.forI 0 (x3.length : Int) (fun s => s) (fun i2 => (fun (s2 : (List (List Int))) => M.bind (M.idx s2 i1) (fun x5 => M.bind (impl_unitMatrix_1 i1 i2) (fun x6 => M.bind (M.idx x5 i2) (fun x7 => M.bind (M.upd x5 i2 x6) (fun l4 => M.ret (.inl (s2.set i1.toNat l4)))))))) l3) (fun x4 => M.ret (.inl x4)))))))) l1) (fun x1 => M.ret x1))

def impl_unitMatrix (n_ : Int) : M ((List (List Int))) :=
  M.bind (impl_matrixBy_F_impl_unitMatrix_1 n_ n_) (fun x1 => M.ret x1)

def spec_l02Apply (a_ : List (List Int)) (x_ : List Int) : M ((List Int)) :=
  M.bind (M.forI 0 (a_.length : Int) (fun s => s) (fun i1 => (fun (s1 : (List Int)) => M.bind (M.forI 0 (x_.length : Int) (fun s => s) (fun i2 => (fun (s2 : Int) => M.bind (M.idx a_ i1) (fun x3 => M.bind (M.idx x3 i2) (fun x4 => M.bind (M.idx x_ i2) (fun x5 => M.bind (spec_l01Times x4 x5) (fun x6 => M.ret (.inl (mx s2 x6)))))))) (-1000000000000000)) (fun x2 => M.bind (M.app s1 ([x2] : List Int)) (fun l1 => M.ret (.inl l1))))) ([] : List Int)) (fun x1 => M.ret x1)

def impl_addMatrices_1 (i : Int) (j : Int) (z0 : List (List Int)) (z1 : List (List Int)) : M Int :=
  M.bind (M.idx z0 i) (fun x1 => M.bind (M.idx x1 j) (fun x2 => M.bind (M.idx z1 i) (fun x3 => M.bind (M.idx x3 j) (fun x4 => M.ret (mx x2 x4)))))

def impl_matrixBy_F_impl_addMatrices_1 (m_ : Int) (n_ : Int) (entry0 : List (List Int)) (entry1 : List (List Int)) : M ((List (List Int))) :=
  M.bind (M.make m_ []) (fun l1 => M.bind (M.forI 0 (l1.length : Int) (fun s => s) (fun i1 => (fun (s1 : (List (List Int))) => M.bind (M.make n_ 0) (fun l2 => M.bind (M.idx s1 i1) (fun x2 => M.bind (M.upd s1 i1 l2) (fun l3 => M.bind (M.idx l3 i1) (fun x3 => M.bind (M.forI 0 (x3.length : Int) (fun s => s) (fun i2 => (fun (s2 : (List (List Int))) => M.bind (M.idx s2 i1) (fun x5 => M.bind (impl_addMatrices_1 i1 i2 entry0 entry1) (fun x6 => M.bind (M.idx x5 i2) (fun x7 => M.bind (M.upd x5 i2 x6) (fun l4 => M.ret (.inl (s2.set i1.toNat l4)))))))) l3) (fun x4 => M.ret (.inl x4)))))))) l1) (fun x1 => M.ret x1))

def impl_addMatrices (a_ : List (List Int)) (b : List (List Int)) : M ((List (List Int))) :=
  M.bind (M.idx a_ 0) (fun x1 => M.bind (impl_matrixBy_F_impl_addMatrices_1 (a_.length : Int) (x1.length : Int) a_ b) (fun x2 => M.ret x2))

def impl_starOf (a_ : List (List Int)) : M ((List (List Int)) × Bool) :=
  M.bind (impl_unitMatrix (a_.length : Int)) (fun x1 => M.bind (impl_addMatrices a_ x1) (fun x2 => M.bind (M.forI 0 (x2.length : Int) (fun s => .inl s) (fun i1 => (fun (s1 : (List (List Int))) => M.bind (M.idx s1 i1) (fun x4 => M.bind (M.idx x4 i1) (fun x5 => M.ite (decide (0 < x5)) (M.ret (.inr (.inr (([] : List (List Int)), false)))) (M.bind (M.forI 0 (x2.length : Int) (fun s => s) (fun i2 => (fun (s3 : (List (List Int))) => M.bind (M.forI 0 (x2.length : Int) (fun s => s) (fun i3 => (fun (s4 : (List (List Int))) => M.bind (M.idx s4 i2) (fun x8 => M.bind (M.idx s4 i2) (fun x9 => M.bind (M.idx x9 i3) (fun x10 => M.bind (M.idx s4 i2) (fun x11 => M.bind (M.idx x11 i1) (fun x12 => M.bind (M.idx s4 i1) (fun x13 => M.bind (M.idx x13 i3) (fun x14 => M.bind (impl_times x12 x14) (fun x15 => M.bind (M.idx x8 i3) (fun x16 => M.bind (M.upd x8 i3 (mx x10 x15)) (fun l1 => M.ret (.inl (s4.set i2.toNat l1)))))))))))))) s3) (fun x7 => M.ret (.inl x7)))) s1) (fun x6 => M.ret (.inl x6))))))) x2) (fun x3 => M.cont x3 (fun s2 => M.bind (M.forI 0 (x2.length : Int) (fun s => .inl s) (fun i4 => (fun (_ : Unit) => M.bind (M.idx s2 i4) (fun x18 => M.bind (M.idx x18 i4) (fun x19 => M.ite (decide (0 < x19)) (M.ret (.inr (.inr (([] : List (List Int)), false)))) (M.ret (.inl ())))))) ()) (fun x17 => M.cont x17 (fun _ => M.ret (s2, true)) (fun r => M.ret r))) (fun r => M.ret r))))

def spec_l02Own (a_ : List (List Int)) : M ((List (List Int))) :=
  M.bind (M.forI 0 (a_.length : Int) (fun s => s) (fun i1 => (fun (s1 : (List (List Int))) => M.bind (M.idx a_ i1) (fun x2 => M.bind (spec_l01Own x2) (fun x3 => M.bind (M.app s1 [x3]) (fun l1 => M.ret (.inl l1)))))) ([] : List (List Int))) (fun x1 => M.ret x1)

def spec_l02Add (a_ : List (List Int)) (b : List (List Int)) : M ((List (List Int))) :=
  M.bind (spec_l02Own a_) (fun x1 => M.bind (M.forI 0 (x1.length : Int) (fun s => s) (fun i1 => (fun (s1 : (List (List Int))) => M.bind (M.loop (fun (s2 : (List (List Int)) × Int) => M.bind (M.idx s2.1 i1) (fun x4 => M.ite (decide (s2.2 < (x4.length : Int))) (M.bind (M.idx s2.1 i1) (fun x5 => M.bind (M.idx s2.1 i1) (fun x6 => M.bind (M.idx x6 s2.2) (fun x7 => M.bind (M.idx b i1) (fun x8 => M.bind (M.idx x8 s2.2) (fun x9 => M.bind (M.idx x5 s2.2) (fun x10 => M.bind (M.upd x5 s2.2 (mx x7 x9)) (fun l1 => M.ret (.inl ((s2.1.set i1.toNat l1), (w64 (s2.2 + 1)))))))))))) (M.ret (.inr (s2.1, s2.2))))) (s1, 0)) (fun x3 => M.ret (.inl x3.1)))) x1) (fun x2 => M.ret x2))

def spec_l02Same (a_ : List (List Int)) (b : List (List Int)) : M Bool :=
  M.ite ((a_.length : Int) != (b.length : Int)) (M.ret false) (M.bind (M.forI 0 (a_.length : Int) (fun s => .inl s) (fun i1 => (fun (_ : Unit) => M.bind (M.idx a_ i1) (fun x2 => M.bind (M.idx b i1) (fun x3 => M.bind (spec_l01Same x2 x3) (fun x4 => M.ite (!x4) (M.ret (.inr (.inr false))) (M.ret (.inl ()))))))) ()) (fun x1 => M.cont x1 (fun _ => M.ret true) (fun r => M.ret r)))

def spec_l03Star (a_ : List (List Int)) : M ((List (List Int)) × Bool) :=
  M.bind (spec_l02Unit (a_.length : Int)) (fun x1 => M.bind (M.forI 0 (a_.length : Int) (fun s => s) (fun _ => (fun (s1 : (List (List Int))) => M.bind (spec_l02Unit (a_.length : Int)) (fun x3 => M.bind (spec_l02Multiply a_ s1) (fun x4 => M.bind (spec_l02Add x3 x4) (fun x5 => M.ret (.inl x5)))))) x1) (fun x2 => M.bind (spec_l02Unit (a_.length : Int)) (fun x6 => M.bind (spec_l02Multiply a_ x2) (fun x7 => M.bind (spec_l02Add x6 x7) (fun x8 => M.bind (spec_l02Same x8 x2) (fun x9 => M.ret (x2, x9)))))))

def spec_l05Reach (a_ : List (List Int)) : M ((List (List Bool))) :=
  M.bind (M.forI 0 (a_.length : Int) (fun s => s) (fun i1 => (fun (s1 : (List (List Bool))) => M.bind (M.make (a_.length : Int) false) (fun l1 => M.bind (M.idx l1 i1) (fun x2 => M.bind (M.upd l1 i1 true) (fun l2 => M.bind (M.forI 0 (a_.length : Int) (fun s => s) (fun _ => (fun (s2 : (List Bool)) => M.bind (M.forI 0 (a_.length : Int) (fun s => s) (fun i3 => (fun (s3 : (List Bool)) => M.bind (M.forI 0 (a_.length : Int) (fun s => s) (fun i4 => (fun (s4 : (List Bool)) => M.bind (M.idx s4 i4) (fun x6 => M.bind (M.ite x6 (M.bind (M.idx a_ i3) (fun x8 => M.bind (M.idx x8 i4) (fun x9 => M.ret (x9 != (-1000000000000000))))) (M.ret false)) (fun x7 => M.bind (M.ite x7 (M.bind (M.idx s4 i3) (fun x10 => M.bind (M.upd s4 i3 true) (fun l3 => M.ret l3))) (M.ret s4)) (fun (s5 : (List Bool)) => M.ret (.inl s5)))))) s3) (fun x5 => M.ret (.inl x5)))) s2) (fun x4 => M.ret (.inl x4)))) l2) (fun x3 => M.bind (M.app s1 [x3]) (fun l4 => M.ret (.inl l4)))))))) ([] : List (List Bool))) (fun x1 => M.ret x1)

def spec_l05Components (a_ : List (List Int)) : M ((List (List Int))) :=
  M.bind (spec_l05Reach a_) (fun x1 => M.bind (M.forI 0 (a_.length : Int) (fun s => s) (fun i1 => (fun (s1 : (List (List Int))) => M.bind (M.forI 0 (a_.length : Int) (fun s => s) (fun i2 => (fun (s2 : (List Int)) => M.bind (M.idx x1 i1) (fun x4 => M.bind (M.idx x4 i2) (fun x5 => M.bind (M.ite x5 (M.bind (M.idx x1 i2) (fun x7 => M.bind (M.idx x7 i1) (fun x8 => M.ret x8))) (M.ret false)) (fun x6 => M.bind (M.ite x6 (M.bind (M.app s2 ([i2] : List Int)) (fun l1 => M.ret l1)) (M.ret s2)) (fun (s3 : (List Int)) => M.ret (.inl s3))))))) ([] : List Int)) (fun x3 => M.bind (M.idx x3 0) (fun x9 => M.bind (M.ite (x9 == i1) (M.bind (M.app s1 [x3]) (fun l2 => M.ret l2)) (M.ret s1)) (fun (s4 : (List (List Int))) => M.ret (.inl s4)))))) ([] : List (List Int))) (fun x2 => M.ret x2))

def impl_isNode (a_ : List (List Int)) (node : Int) : M Bool :=
  M.bind (impl_within node 0 (w64 ((a_.length : Int) - 1))) (fun x1 => M.ret x1)

def laws_likeTables9 (a_ : List (List Int)) (b : List (List Int)) : M Bool :=
  M.ite ((a_.length : Int) != (b.length : Int)) (M.ret false) (M.bind (M.forI 0 (a_.length : Int) (fun s => .inl s) (fun i1 => (fun (_ : Unit) => M.bind (M.idx a_ i1) (fun x2 => M.bind (M.idx b i1) (fun x3 => M.bind (laws_likeInts x2 x3) (fun x4 => M.ite (!x4) (M.ret (.inr (.inr false))) (M.ret (.inl ()))))))) ()) (fun x1 => M.cont x1 (fun _ => M.ret true) (fun r => M.ret r)))

def impl_reaching (a_ : List (List Int)) : M ((List (List Bool))) :=
  M.bind (M.make (a_.length : Int) []) (fun l1 => M.bind (M.forI 0 (l1.length : Int) (fun s => s) (fun i1 => (fun (s1 : (List (List Bool))) => M.bind (M.make (a_.length : Int) false) (fun l2 => M.bind (M.idx s1 i1) (fun x2 => M.bind (M.upd s1 i1 l2) (fun l3 => M.bind (M.forI 0 (a_.length : Int) (fun s => s) (fun i2 => (fun (s2 : (List (List Bool))) => M.bind (M.bind (M.idx s2 i1) (fun x4 => M.ite (i1 == i2) (M.bind (M.idx x4 i2) (fun x5 => M.bind (M.upd x4 i2 true) (fun l4 => M.ret (s2.set i1.toNat l4)))) (M.bind (M.idx a_ i2) (fun x6 => M.bind (M.idx x6 i1) (fun x7 => M.bind (M.idx x4 i2) (fun x8 => M.bind (M.upd x4 i2 (x7 != (-1000000000000000))) (fun l5 => M.ret (s2.set i1.toNat l5)))))))) (fun (s3 : (List (List Bool))) => M.ret (.inl s3)))) l3) (fun x3 => M.ret (.inl x3))))))) l1) (fun x1 => M.bind (M.forI 0 (a_.length : Int) (fun s => s) (fun i3 => (fun (s4 : (List (List Bool))) => M.bind (M.forI 0 (a_.length : Int) (fun s => s) (fun i4 => (fun (s5 : (List (List Bool))) => M.bind (M.forI 0 (a_.length : Int) (fun s => s) (fun i5 => (fun (s6 : (List (List Bool))) => M.bind (M.bind (M.idx s6 i3) (fun x12 => M.bind (M.idx s6 i4) (fun x13 => M.bind (M.idx s6 i4) (fun x14 => M.bind (M.idx x14 i5) (fun x15 => M.ite x15 (M.bind (M.idx x13 i5) (fun x16 => M.bind (M.upd x13 i5 true) (fun l6 => M.ret (s6.set i4.toNat l6)))) (M.bind (M.idx x14 i3) (fun x17 => M.ite x17 (M.bind (M.idx x12 i5) (fun x18 => M.bind (M.idx x13 i5) (fun x19 => M.bind (M.upd x13 i5 x18) (fun l7 => M.ret (s6.set i4.toNat l7))))) (M.bind (M.idx x13 i5) (fun x20 => M.bind (M.upd x13 i5 false) (fun l8 => M.ret (s6.set i4.toNat l8))))))))))) (fun (s7 : (List (List Bool))) => M.ret (.inl s7)))) s5) (fun x11 => M.ret (.inl x11)))) s4) (fun x10 => M.ret (.inl x10)))) x1) (fun x9 => M.ret x9)))

def impl_componentsOf (a_ : List (List Int)) : M ((List (List Int))) :=
  M.bind (impl_reaching a_) (fun x1 => M.bind (M.forI 0 (a_.length : Int) (fun s => s) (fun i1 => (fun (s1 : (List (List Int))) => M.bind (M.forI 0 (a_.length : Int) (fun s => s) (fun i2 => (fun (s2 : (List Int)) => M.bind (M.idx x1 i1) (fun x4 => M.bind (M.idx x4 i2) (fun x5 => M.bind (M.ite x5 (M.bind (M.idx x1 i2) (fun x7 => M.bind (M.idx x7 i1) (fun x8 => M.ret x8))) (M.ret false)) (fun x6 => M.bind (M.ite x6 (M.bind (M.app s2 ([i2] : List Int)) (fun l1 => M.ret l1)) (M.ret s2)) (fun (s3 : (List Int)) => M.ret (.inl s3))))))) []) (fun x3 => M.bind (M.idx x3 0) (fun x9 => M.bind (M.ite (x9 == i1) (M.bind (M.app s1 [x3]) (fun l2 => M.ret l2)) (M.ret s1)) (fun (s4 : (List (List Int))) => M.ret (.inl s4)))))) []) (fun x2 => M.ret x2))

def impl_shifted_1 (i : Int) (j : Int) (z0 : List (List Int)) (z1 : TRatio) : M Int :=
  M.bind (M.idx z0 i) (fun x1 => M.bind (M.idx x1 j) (fun x2 => M.ite (x2 == (-1000000000000000)) (M.ret (-1000000000000000)) (M.bind (M.idx z0 i) (fun x3 => M.bind (M.idx x3 j) (fun x4 => M.ret (w64 ((w64 (z1.Den * x4)) - z1.Num)))))))

def impl_matrixBy_F_impl_shifted_1 (m_ : Int) (n_ : Int) (entry0 : List (List Int)) (entry1 : TRatio) : M ((List (List Int))) :=
  M.bind (M.make m_ []) (fun l1 => M.bind (M.forI 0 (l1.length : Int) (fun s => s) (fun i1 => (fun (s1 : (List (List Int))) => M.bind (M.make n_ 0) (fun l2 => M.bind (M.idx s1 i1) (fun x2 => M.bind (M.upd s1 i1 l2) (fun l3 => M.bind (M.idx l3 i1) (fun x3 => M.bind (M.forI 0 (x3.length : Int) (fun s => s) (fun i2 => (fun (s2 : (List (List Int))) => M.bind (M.idx s2 i1) (fun x5 => M.bind (impl_shifted_1 i1 i2 entry0 entry1) (fun x6 => M.bind (M.idx x5 i2) (fun x7 => M.bind (M.upd x5 i2 x6) (fun l4 => M.ret (.inl (s2.set i1.toNat l4)))))))) l3) (fun x4 => M.ret (.inl x4)))))))) l1) (fun x1 => M.ret x1))

def impl_shifted (a_ : List (List Int)) (r_ : TRatio) : M ((List (List Int))) :=
  M.bind (impl_matrixBy_F_impl_shifted_1 (a_.length : Int) (a_.length : Int) a_ r_) (fun x1 => M.ret x1)

def impl_criticalMatrix_1 (i : Int) (j : Int) (z0 : List (List Int)) (z1 : List (List Int)) (z2 : List (List Int)) : M Int :=
  M.bind (M.idx z0 i) (fun x1 => M.bind (M.idx x1 j) (fun x2 => M.bind (M.ite (x2 == (-1000000000000000)) (M.ret true) (M.bind (M.idx z1 j) (fun x4 => M.bind (M.idx x4 i) (fun x5 => M.ret (x5 == (-1000000000000000)))))) (fun x3 => M.bind (M.ite x3 (M.ret true) (M.bind (M.idx z0 i) (fun x7 => M.bind (M.idx x7 j) (fun x8 => M.bind (M.idx z1 j) (fun x9 => M.bind (M.idx x9 i) (fun x10 => M.ret ((w64 (x8 + x10)) != 0))))))) (fun x6 => M.ite x6 (M.ret (-1000000000000000)) (M.bind (M.idx z2 i) (fun x11 => M.bind (M.idx x11 j) (fun x12 => M.ret x12)))))))

def impl_matrixBy_F_impl_criticalMatrix_1 (m_ : Int) (n_ : Int) (entry0 : List (List Int)) (entry1 : List (List Int)) (entry2 : List (List Int)) : M ((List (List Int))) :=
  M.bind (M.make m_ []) (fun l1 => M.bind (M.forI 0 (l1.length : Int) (fun s => s) (fun i1 => (fun (s1 : (List (List Int))) => M.bind (M.make n_ 0) (fun l2 => M.bind (M.idx s1 i1) (fun x2 => M.bind (M.upd s1 i1 l2) (fun l3 => M.bind (M.idx l3 i1) (fun x3 => M.bind (M.forI 0 (x3.length : Int) (fun s => s) (fun i2 => (fun (s2 : (List (List Int))) => M.bind (M.idx s2 i1) (fun x5 => M.bind (impl_criticalMatrix_1 i1 i2 entry0 entry1 entry2) (fun x6 => M.bind (M.idx x5 i2) (fun x7 => M.bind (M.upd x5 i2 x6) (fun l4 => M.ret (.inl (s2.set i1.toNat l4)))))))) l3) (fun x4 => M.ret (.inl x4)))))))) l1) (fun x1 => M.ret x1))

def impl_criticalMatrix (a_ : List (List Int)) (mean : TRatio) : M ((List (List Int))) :=
  M.bind (impl_shifted a_ mean) (fun x1 => M.bind (impl_starOf x1) (fun x2 => M.bind (impl_matrixBy_F_impl_criticalMatrix_1 (a_.length : Int) (a_.length : Int) x1 x2.1 a_) (fun x3 => M.ret x3)))

def impl_criticalOf (a_ : List (List Int)) : M ((List (List Int)) × Int) :=
  M.bind (impl_isSquare a_) (fun x1 => M.ite (!x1) (M.ret (([] : List (List Int)), 1)) (M.bind (impl_cycleMean a_) (fun x2 => M.ite (!x2.2) (M.ret (([] : List (List Int)), 4)) (M.bind (impl_criticalMatrix a_ x2.1) (fun x3 => M.ret (x3, 0))))))

def impl_criticalComponents_1 (component : List Int) (z0 : List (List Int)) : M Bool :=
  M.bind (M.idx component 0) (fun x1 => M.bind (M.ite ((component.length : Int) == 1) (M.bind (M.idx z0 x1) (fun x3 => M.bind (M.idx x3 x1) (fun x4 => M.ret (x4 == (-1000000000000000))))) (M.ret false)) (fun x2 => M.ret x2))

def slices_IndexFunc_row_F_impl_criticalComponents_1 (s_ : List (List Int)) (f0 : List (List Int)) : M Int :=
  M.bind (M.forI 0 (s_.length : Int) (fun s => .inl s) (fun i1 => (fun (_ : Unit) => M.bind (M.idx s_ i1) (fun x2 => M.bind (impl_criticalComponents_1 x2 f0) (fun x3 => M.ite x3 (M.ret (.inr (.inr i1))) (M.ret (.inl ())))))) ()) (fun x1 => M.cont x1 (fun _ => M.ret (-1)) (fun r => M.ret r))

def slices_DeleteFunc_row_F_impl_criticalComponents_1 (s_ : List (List Int)) (del0 : List (List Int)) : M ((List (List Int))) :=
  M.bind (slices_IndexFunc_row_F_impl_criticalComponents_1 s_ del0) (fun x1 => M.ite (x1 == (-1)) (M.ret s_) (M.bind (M.forI (w64 (x1 + 1)) (s_.length : Int) (fun s => s) (fun i1 => (fun (s1 : (List (List Int)) × Int) => M.bind (M.idx s1.1 i1) (fun x3 => M.bind (impl_criticalComponents_1 x3 del0) (fun x4 => M.bind (M.ite (!x4) (M.bind (M.idx s1.1 s1.2) (fun x5 => M.bind (M.upd s1.1 s1.2 x3) (fun l1 => M.ret (l1, (w64 (s1.2 + 1)))))) (M.ret (s1.1, s1.2))) (fun (s2 : (List (List Int)) × Int) => M.ret (.inl (s2.1, s2.2))))))) (s_, x1)) (fun x2 => M.bind (M.sub x2.1 x2.2 (s_.length : Int)) (fun x6 => M.bind (M.sub (x2.1.take x2.2.toNat ++ List.replicate ((s_.length : Int).toNat - (x2.2 : Int).toNat) []) 0 x2.2) (fun x7 => M.ret x7)))))

def impl_criticalComponents (critical : List (List Int)) : M ((List (List Int))) :=
  M.bind (impl_componentsOf critical) (fun x1 => M.bind (slices_DeleteFunc_row_F_impl_criticalComponents_1 x1 critical) (fun x2 => M.ret x2))

def spec_l01Within (list : List Int) (most : Int) (low : Int) (high : Int) : M Bool :=
  M.bind (M.forI 0 (list.length : Int) (fun s => .inl s) (fun i1 => (fun (_ : Unit) => M.bind (M.idx list i1) (fun x2 => M.bind (spec_l01In x2 low high) (fun x3 => M.ite (!x3) (M.ret (.inr (.inr false))) (M.ret (.inl ())))))) ()) (fun x1 => M.cont x1 (fun _ => M.ret (decide ((list.length : Int) ≤ most))) (fun r => M.ret r))

def spec_l03Nodes (a_ : List (List Int)) (list : List Int) : M Bool :=
  M.bind (spec_l01Within list (list.length : Int) 0 (w64 ((a_.length : Int) - 1))) (fun x1 => M.ret x1)

def spec_l03Walk (a_ : List (List Int)) (list : List Int) : M (Int × Bool) :=
  M.bind (M.forI 1 (list.length : Int) (fun s => .inl s) (fun i1 => (fun (s1 : Int) => M.bind (M.idx list i1) (fun x2 => M.bind (M.idx a_ x2) (fun x3 => M.bind (M.idx list (w64 (i1 - 1))) (fun x4 => M.bind (M.idx x3 x4) (fun x5 => M.ite (x5 == (-1000000000000000)) (M.ret (.inr (.inr (0, false)))) (M.ret (.inl (w64 (s1 + x5)))))))))) 0) (fun x1 => M.cont x1 (fun s2 => M.ret (s2, true)) (fun r => M.ret r))

def spec_l03Cycle (a_ : List (List Int)) (cycle : List Int) : M (Int × Bool) :=
  M.bind (M.ite ((cycle.length : Int) == 0) (M.ret true) (M.bind (spec_l03Nodes a_ cycle) (fun x2 => M.ret (!x2)))) (fun x1 => M.ite x1 (M.ret (0, false)) (M.bind (M.forI 0 (cycle.length : Int) (fun s => .inl s) (fun i1 => (fun (_ : Unit) => M.bind (M.sub cycle 0 i1) (fun x4 => M.bind (M.idx cycle i1) (fun x5 => M.bind (spec_l01Has x4 x5) (fun x6 => M.ite x6 (M.ret (.inr (.inr (0, false)))) (M.ret (.inl ()))))))) ()) (fun x3 => M.cont x3 (fun _ => M.bind (M.bind (M.idx cycle 0) (fun x8 => M.bind (spec_l01Own cycle) (fun x9 => M.bind (M.app x9 ([x8] : List Int)) (fun l1 => M.bind (spec_l03Walk a_ l1) (fun x10 => M.ret (x10.1, x10.2)))))) (fun (s3 : Int × Bool) => M.ret (s3.1, s3.2))) (fun r => M.ret r))))

def spec_l04Mean (a_ : List (List Int)) (cycle : List Int) : M (TRatio × Bool) :=
  M.bind (spec_l03Cycle a_ cycle) (fun x1 => M.ite (!x1.2) (M.ret ((⟨0, 0⟩ : TRatio), false)) (M.bind (spec_l01Ratio x1.1 (cycle.length : Int)) (fun x2 => M.ret (x2, true))))

def spec_l04Shift (a_ : List (List Int)) (r_ : TRatio) : M ((List (List Int))) :=
  M.bind (spec_l02Own a_) (fun x1 => M.bind (M.forI 0 (a_.length : Int) (fun s => s) (fun i1 => (fun (s1 : (List (List Int))) => M.bind (M.forI 0 (a_.length : Int) (fun s => s) (fun i2 => (fun (s2 : (List (List Int))) => M.bind (M.idx a_ i1) (fun x4 => M.bind (M.idx x4 i2) (fun x5 => M.bind (M.ite (x5 != (-1000000000000000)) (M.bind (M.idx s2 i1) (fun x6 => M.bind (M.idx a_ i1) (fun x7 => M.bind (M.idx x7 i2) (fun x8 => M.bind (M.idx x6 i2) (fun x9 => M.bind (M.upd x6 i2 (w64 ((w64 (r_.Den * x8)) - r_.Num))) (fun l1 => M.ret (s2.set i1.toNat l1))))))) (M.ret s2)) (fun (s3 : (List (List Int))) => M.ret (.inl s3)))))) s1) (fun x3 => M.ret (.inl x3)))) x1) (fun x2 => M.ret x2))

def spec_l04Best (a_ : List (List Int)) : M ((List Int) × Bool) :=
  M.bind (spec_l03Over a_ (-1000000000000000)) (fun x1 => M.bind (M.loop (fun (s1 : (List Int)) => M.ite (decide (0 < (s1.length : Int))) (M.bind (spec_l04Mean a_ s1) (fun x3 => M.bind (spec_l04Shift a_ x3.1) (fun x4 => M.bind (spec_l03Over x4 0) (fun x5 => M.ite ((x5.length : Int) == 0) (M.bind (spec_l04Shift a_ x3.1) (fun x6 => M.bind (spec_l03Over x6 (-1)) (fun x7 => M.ret (.inr (.inr (x7, true)))))) (M.ret (.inl x5)))))) (M.ret (.inr (.inl s1)))) x1) (fun x2 => M.cont x2 (fun _ => M.ret (([] : List Int), false)) (fun r => M.ret r)))

def spec_l06Code (a_ : List (List Int)) : M Int :=
  M.bind (spec_l02Square a_) (fun x1 => M.ite (!x1) (M.ret 1) (M.bind (spec_l04Best a_) (fun x2 => M.ite (!x2.2) (M.ret 4) (M.ret 0))))

def spec_l06Arcs (a_ : List (List Int)) : M ((List (List Int))) :=
  M.bind (spec_l04Best a_) (fun x1 => M.bind (spec_l04Mean a_ x1.1) (fun x2 => M.bind (spec_l04Shift a_ x2.1) (fun x3 => M.bind (spec_l03Star x3) (fun x4 => M.bind (M.forI 0 (a_.length : Int) (fun s => s) (fun i1 => (fun (s1 : (List (List Int))) => M.bind (M.forI 0 (a_.length : Int) (fun s => s) (fun i2 => (fun (s2 : (List (List Int))) => M.bind (M.idx x3 i2) (fun x7 => M.bind (M.idx x7 i1) (fun x8 => M.bind (M.idx x4.1 i1) (fun x9 => M.bind (M.idx x9 i2) (fun x10 => M.bind (spec_l01Times x8 x10) (fun x11 => M.bind (M.ite (x11 == 0) (M.bind (M.app s2 [([i1, i2] : List Int)]) (fun l1 => M.ret l1)) (M.ret s2)) (fun (s3 : (List (List Int))) => M.ret (.inl s3))))))))) s1) (fun x6 => M.ret (.inl x6)))) ([] : List (List Int))) (fun x5 => M.ret x5)))))

def spec_l06Matrix (a_ : List (List Int)) : M ((List (List Int))) :=
  M.bind (spec_l02Bottom (a_.length : Int) (a_.length : Int)) (fun x1 => M.bind (spec_l06Arcs a_) (fun x2 => M.bind (M.forI 0 (x2.length : Int) (fun s => s) (fun i1 => (fun (s1 : (List (List Int))) => M.bind (M.idx x2 i1) (fun x4 => M.bind (M.idx x4 1) (fun x5 => M.bind (M.idx x2 i1) (fun x6 => M.bind (M.idx x6 0) (fun x7 => M.bind (M.idx s1 x5) (fun x8 => M.bind (M.idx a_ x5) (fun x9 => M.bind (M.idx x9 x7) (fun x10 => M.bind (M.idx x8 x7) (fun x11 => M.bind (M.upd x8 x7 x10) (fun l1 => M.ret (.inl (s1.set x5.toNat l1))))))))))))) x1) (fun x3 => M.ret x3)))

def spec_l06Nodes (a_ : List (List Int)) : M ((List Int)) :=
  M.bind (spec_l06Arcs a_) (fun x1 => M.bind (M.forI 0 (x1.length : Int) (fun s => s) (fun i1 => (fun (s1 : (List Int)) => M.bind (M.idx x1 i1) (fun x3 => M.bind (M.idx x3 0) (fun x4 => M.bind (spec_l01Has s1 x4) (fun x5 => M.bind (M.ite (!x5) (M.bind (M.idx x1 i1) (fun x6 => M.bind (M.idx x6 0) (fun x7 => M.bind (M.app s1 ([x7] : List Int)) (fun l1 => M.ret l1)))) (M.ret s1)) (fun (s2 : (List Int)) => M.ret (.inl s2))))))) ([] : List Int)) (fun x2 => M.ret x2))

def spec_l06Components (a_ : List (List Int)) : M ((List (List Int))) :=
  M.bind (spec_l06Matrix a_) (fun x1 => M.bind (spec_l05Components x1) (fun x2 => M.bind (spec_l06Nodes a_) (fun x3 => M.bind (M.forI 0 (x2.length : Int) (fun s => s) (fun i1 => (fun (s1 : (List (List Int))) => M.bind (M.idx x2 i1) (fun x5 => M.bind (M.idx x5 0) (fun x6 => M.bind (spec_l01Has x3 x6) (fun x7 => M.bind (M.ite x7 (M.bind (M.idx x2 i1) (fun x8 => M.bind (M.app s1 [x8]) (fun l1 => M.ret l1))) (M.ret s1)) (fun (s2 : (List (List Int))) => M.ret (.inl s2))))))) ([] : List (List Int))) (fun x4 => M.ret x4))))

def spec_CriticalNodes (a_ : List (List Int)) : M ((List Int) × Int) :=
  M.bind (spec_l06Code a_) (fun x1 => M.ite (x1 != 0) (M.ret (([] : List Int), x1)) (M.bind (spec_l06Nodes a_) (fun x2 => M.ret (x2, 0))))

def slices_Grow_int_nil (n_ : Int) : M ((List Int)) :=
  M.bind (M.ite (decide (n_ < 0)) (M.fail) (M.ret ())) (fun (_ : Unit) => M.bind (M.ite (decide (0 < (w64 (n_ - (w64 (0 - 0)))))) (M.bind (M.make (w64 (n_ - (w64 (0 - 0)))) 0) (fun l1 => M.bind (M.sub l1 0 0) (fun x1 => M.ret x1))) (M.ret [])) (fun (s2 : (List Int)) => M.ret s2))

def slices_Concat_int (slices : List (List Int)) : M ((List Int)) :=
  M.bind (M.forI 0 (slices.length : Int) (fun s => s) (fun i1 => (fun (s1 : Int) => M.bind (M.idx slices i1) (fun x2 => M.bind (M.ite (decide ((w64 (s1 + (x2.length : Int))) < 0)) (M.fail) (M.ret ())) (fun (_ : Unit) => M.ret (.inl (w64 (s1 + (x2.length : Int)))))))) 0) (fun x1 => M.bind (slices_Grow_int_nil x1) (fun x3 => M.bind (M.forI 0 (slices.length : Int) (fun s => s) (fun i2 => (fun (s3 : (List Int)) => M.bind (M.idx slices i2) (fun x5 => M.bind (M.app s3 x5) (fun l1 => M.ret (.inl l1))))) x3) (fun x4 => M.ret x4)))

def cmp_Less_i (x_ : Int) (y_ : Int) : M Bool :=
  M.bind (cmp_isNaN_i x_) (fun x1 => M.bind (M.ite x1 (M.bind (cmp_isNaN_i y_) (fun x3 => M.ret (!x3))) (M.ret false)) (fun x2 => M.ret (x2 || (decide (x_ < y_)))))

def slices_Sort_int (x_ : List Int) : M (List Int) :=
  M.bind (M.guard (decide (x_.length ≤ 1099511627776))) (fun _ => M.ret (x_.mergeSort fun x y => decide (x ≤ y)))

def impl_CriticalNodes (a_ : List (List Int)) : M ((List Int) × Int) :=
  M.bind (impl_criticalOf a_) (fun x1 => M.ite (x1.2 != 0) (M.ret (([] : List Int), x1.2)) (M.bind (impl_criticalComponents x1.1) (fun x2 => M.bind (slices_Concat_int x2) (fun x3 => M.bind (slices_Sort_int x3) (fun x4 => M.ret (x4, 0))))))

def spec_l04Draw (s_ : TL01source) : M ((List (List Int)) × TL01source) :=
  M.bind (spec_l02DrawSquare s_) (fun x1 => M.bind (spec_l01Next (⟨s_.code, x1.2.at_, x1.2.seed⟩ : TL01source) 30) (fun x2 => M.ite (x2.1 == 0) (M.bind (spec_l01Pick (⟨s_.code, x2.2.at_, x2.2.seed⟩ : TL01source) ([1000000, 999983] : List Int)) (fun x3 => M.bind (spec_l01Pick (⟨s_.code, x3.2.1.at_, x3.2.1.seed⟩ : TL01source) ([1000000, (-7)] : List Int)) (fun x4 => M.ret ([([(-1000000000000000), x3.1] : List Int), ([x4.1, (-1000000000000000)] : List Int)], (⟨s_.code, x4.2.1.at_, x4.2.1.seed⟩ : TL01source))))) (M.ret (x1.1, (⟨s_.code, x2.2.at_, x2.2.seed⟩ : TL01source)))))

def spec_l06Draw (s_ : TL01source) : M ((List (List Int)) × TL01source) :=
  M.bind (spec_l04Draw s_) (fun x1 => M.bind (M.bind (spec_l02Square x1.1) (fun x2 => M.ite (!x2) (M.ret (x1.2.at_, x1.2.seed, true)) (M.bind (spec_l01Next (⟨s_.code, x1.2.at_, x1.2.seed⟩ : TL01source) 3) (fun x3 => M.ret (x3.2.at_, x3.2.seed, (x3.1 == 0)))))) (fun (s1 : Int × Int × Bool) => M.ite s1.2.2 (M.ret (x1.1, (⟨s_.code, s1.1, s1.2.1⟩ : TL01source))) (M.bind (M.forI 0 (x1.1.length : Int) (fun s => s) (fun _ => (fun (s2 : Int × Int × (List Int)) => M.bind (spec_l01Next (⟨s_.code, s2.1, s2.2.1⟩ : TL01source) 6) (fun x5 => M.bind (M.app s2.2.2 ([x5.1] : List Int)) (fun l1 => M.ret (.inl (x5.2.at_, x5.2.seed, l1)))))) (s1.1, s1.2.1, ([] : List Int))) (fun x4 => M.bind (spec_l01Next (⟨s_.code, x4.1, x4.2.1⟩ : TL01source) 7) (fun x6 => M.bind (M.forI 0 (x1.1.length : Int) (fun s => s) (fun i2 => (fun (s3 : Int × Int × (List (List Int))) => M.bind (M.forI 0 (x1.1.length : Int) (fun s => s) (fun i3 => (fun (s4 : Int × Int × (List (List Int))) => M.bind (M.idx s4.2.2 i2) (fun x9 => M.bind (M.idx x9 i3) (fun x10 => M.bind (spec_l01Finite x10) (fun x11 => M.bind (M.ite x11 (M.bind (M.idx s4.2.2 i2) (fun x13 => M.bind (M.idx x13 i3) (fun x14 => M.bind (spec_l01In x14 (-100) 100) (fun x15 => M.ret x15)))) (M.ret false)) (fun x12 => M.bind (M.ite x12 (M.bind (M.idx s4.2.2 i2) (fun x16 => M.bind (M.idx x4.2.2 i2) (fun x17 => M.bind (M.idx x4.2.2 i3) (fun x18 => M.bind (spec_l01Next (⟨s_.code, s4.1, s4.2.1⟩ : TL01source) 5) (fun x19 => M.bind (M.idx x16 i3) (fun x20 => M.bind (M.upd x16 i3 (w64 ((w64 ((w64 (x17 - x18)) + (w64 (x6.1 - 2)))) - (mx 0 (w64 (x19.1 - 2)))))) (fun l2 => M.ret (x19.2.at_, x19.2.seed, (s4.2.2.set i2.toNat l2))))))))) (M.ret (s4.1, s4.2.1, s4.2.2))) (fun (s5 : Int × Int × (List (List Int))) => M.ret (.inl (s5.1, s5.2.1, s5.2.2))))))))) (s3.1, s3.2.1, s3.2.2)) (fun x8 => M.ret (.inl (x8.1, x8.2.1, x8.2.2))))) (x6.2.at_, x6.2.seed, x1.1)) (fun x7 => M.ret (x7.2.2, (⟨s_.code, x7.1, x7.2.1⟩ : TL01source))))))))

def spec_DrawCriticalArcs (code : List Int) : M ((List (List Int))) :=
  M.bind (spec_l01From code) (fun x1 => M.bind (spec_l06Draw x1) (fun x2 => M.ret x2.1))

def impl_CriticalArcs (a_ : List (List Int)) : M ((List (List Int)) × Int) :=
  M.bind (impl_criticalOf a_) (fun x1 => M.ite (x1.2 != 0) (M.ret (([] : List (List Int)), x1.2)) (M.bind (M.forI 0 (x1.1.length : Int) (fun s => s) (fun i1 => (fun (s1 : (List (List Int))) => M.bind (M.forI 0 (x1.1.length : Int) (fun s => s) (fun i2 => (fun (s2 : (List (List Int))) => M.bind (M.idx x1.1 i2) (fun x4 => M.bind (M.idx x4 i1) (fun x5 => M.bind (M.ite (x5 != (-1000000000000000)) (M.bind (M.app s2 [([i1, i2] : List Int)]) (fun l1 => M.ret l1)) (M.ret s2)) (fun (s3 : (List (List Int))) => M.ret (.inl s3)))))) s1) (fun x3 => M.ret (.inl x3)))) []) (fun x2 => M.ret (x2, 0))))

def spec_CriticalArcs (a_ : List (List Int)) : M ((List (List Int)) × Int) :=
  M.bind (spec_l06Code a_) (fun x1 => M.ite (x1 != 0) (M.ret (([] : List (List Int)), x1)) (M.bind (spec_l06Arcs a_) (fun x2 => M.ret (x2, 0))))

def impl_CriticalMatrix (a_ : List (List Int)) : M ((List (List Int)) × Int) :=
  M.bind (impl_criticalOf a_) (fun x1 => M.ret (x1.1, x1.2))

def spec_CriticalMatrix (a_ : List (List Int)) : M ((List (List Int)) × Int) :=
  M.bind (spec_l06Code a_) (fun x1 => M.ite (x1 != 0) (M.ret (([] : List (List Int)), x1)) (M.bind (spec_l06Matrix a_) (fun x2 => M.ret (x2, 0))))

def spec_BestCycle (a_ : List (List Int)) : M ((List Int) × Int) :=
  M.bind (spec_l02Square a_) (fun x1 => M.ite (!x1) (M.ret (([] : List Int), 1)) (M.bind (spec_l04Best a_) (fun x2 => M.ite (!x2.2) (M.ret (([] : List Int), 4)) (M.ret (x2.1, 0)))))

def spec_l03DrawNodes (s_ : TL01source) (a_ : List (List Int)) : M ((List Int) × TL01source × (List (List Int))) :=
  M.ite ((a_.length : Int) == 0) (M.ret (([0] : List Int), s_, a_)) (M.bind (spec_l01Next s_ (a_.length : Int)) (fun x1 => M.bind (spec_l01Next (⟨s_.code, x1.2.at_, x1.2.seed⟩ : TL01source) 6) (fun x2 => M.bind (M.loop (fun (s1 : Int × Int × (List Int) × Int) => M.ite (decide (0 < s1.2.2.2)) (M.bind (spec_l01Next (⟨s_.code, s1.1, s1.2.1⟩ : TL01source) (a_.length : Int)) (fun x4 => M.bind (M.idx s1.2.2.1 (w64 ((s1.2.2.1.length : Int) - 1))) (fun x5 => M.bind (M.loop (fun (s2 : Int × Int) => M.bind (M.ite (decide (s2.2 < (a_.length : Int))) (M.bind (M.idx a_ s2.1) (fun x8 => M.ret (decide (x5 < (x8.length : Int))))) (M.ret false)) (fun x7 => M.bind (M.ite x7 (M.bind (M.idx a_ s2.1) (fun x10 => M.bind (M.idx x10 x5) (fun x11 => M.ret (x11 == (-1000000000000000))))) (M.ret false)) (fun x9 => M.ite x9 (M.bind (M.guard ((a_.length : Int) != 0)) (fun _ => M.ret (.inl (((w64 (s2.1 + 1)).tmod (a_.length : Int)), (w64 (s2.2 + 1)))))) (M.ret (.inr (s2.1, s2.2)))))) (x4.1, 0)) (fun x6 => M.bind (M.app s1.2.2.1 ([x6.1] : List Int)) (fun l1 => M.ret (.inl (x4.2.at_, x4.2.seed, l1, (w64 (s1.2.2.2 - 1))))))))) (M.ret (.inr (s1.1, s1.2.1, s1.2.2.1, s1.2.2.2)))) (x2.2.at_, x2.2.seed, ([x1.1] : List Int), x2.1)) (fun x3 => M.bind (spec_l01Next (⟨s_.code, x3.1, x3.2.1⟩ : TL01source) 40) (fun x12 => M.ite (x12.1 == 0) (M.bind (spec_l01Pick (⟨s_.code, x12.2.at_, x12.2.seed⟩ : TL01source) ([(-1), (a_.length : Int)] : List Int)) (fun x13 => M.bind (M.app x3.2.2.1 ([x13.1] : List Int)) (fun l2 => M.ret (l2, (⟨s_.code, x13.2.1.at_, x13.2.1.seed⟩ : TL01source), a_)))) (M.ite (x12.1 == 1) (M.ret (([] : List Int), (⟨s_.code, x12.2.at_, x12.2.seed⟩ : TL01source), a_)) (M.ret (x3.2.2.1, (⟨s_.code, x12.2.at_, x12.2.seed⟩ : TL01source), a_))))))))

def spec_l03DrawCycle (s_ : TL01source) (a_ : List (List Int)) : M ((List Int) × TL01source × (List (List Int))) :=
  M.bind (M.bind (spec_l02Square a_) (fun x1 => M.ite x1 (M.bind (spec_l01Next s_ 4) (fun x2 => M.ret (x2.2.at_, x2.2.seed, (decide (0 < x2.1))))) (M.ret (s_.at_, s_.seed, false)))) (fun (s1 : Int × Int × Bool) => M.ite s1.2.2 (M.bind (spec_l01Pick (⟨s_.code, s1.1, s1.2.1⟩ : TL01source) ([(-1000000000000000), (-20), (-5), 0] : List Int)) (fun x3 => M.bind (spec_l03Over a_ x3.1) (fun x4 => M.ite (decide (0 < (x4.length : Int))) (M.bind (spec_l01Next (⟨s_.code, x3.2.1.at_, x3.2.1.seed⟩ : TL01source) (x4.length : Int)) (fun x5 => M.bind (M.sub x4 x5.1 (x4.length : Int)) (fun x6 => M.bind (M.sub x4 0 x5.1) (fun x7 => M.bind (spec_l01Own x6) (fun x8 => M.bind (M.app x8 x7) (fun l1 => M.ret (l1, (⟨s_.code, x5.2.at_, x5.2.seed⟩ : TL01source), a_))))))) (M.bind (spec_l03DrawNodes (⟨s_.code, x3.2.1.at_, x3.2.1.seed⟩ : TL01source) a_) (fun x9 => M.ret (x9.1, (⟨s_.code, x9.2.1.at_, x9.2.1.seed⟩ : TL01source), x9.2.2)))))) (M.bind (spec_l03DrawNodes (⟨s_.code, s1.1, s1.2.1⟩ : TL01source) a_) (fun x10 => M.ret (x10.1, (⟨s_.code, x10.2.1.at_, x10.2.1.seed⟩ : TL01source), x10.2.2))))

def spec_DrawIsCriticalCycle (code : List Int) : M ((List (List Int)) × (List Int)) :=
  M.bind (spec_l01From code) (fun x1 => M.bind (spec_l06Draw x1) (fun x2 => M.bind (spec_BestCycle x2.1) (fun x3 => M.bind (M.ite (x3.2 != 0) (M.ret (x2.2.at_, x2.2.seed, true)) (M.bind (spec_l01Next (⟨x1.code, x2.2.at_, x2.2.seed⟩ : TL01source) 2) (fun x4 => M.ret (x4.2.at_, x4.2.seed, (x4.1 == 0))))) (fun (s1 : Int × Int × Bool) => M.ite s1.2.2 (M.bind (spec_l03DrawCycle (⟨x1.code, s1.1, s1.2.1⟩ : TL01source) x2.1) (fun x5 => M.ret (x5.2.2, x5.1))) (M.bind (spec_l01Next (⟨x1.code, s1.1, s1.2.1⟩ : TL01source) (x3.1.length : Int)) (fun x6 => M.bind (M.sub x3.1 x6.1 (x3.1.length : Int)) (fun x7 => M.bind (M.sub x3.1 0 x6.1) (fun x8 => M.bind (spec_l01Own x7) (fun x9 => M.bind (M.app x9 x8) (fun l1 => M.ret (x2.1, l1)))))))))))

def impl_cycleWeight (a_ : List (List Int)) (cycle : List Int) : M (Int × Bool) :=
  M.ite ((cycle.length : Int) == 0) (M.ret (0, false)) (M.bind (M.idx cycle (w64 ((cycle.length : Int) - 1))) (fun x1 => M.bind (M.forI 0 (cycle.length : Int) (fun s => .inl s) (fun i1 => (fun (s1 : Int × Int) => M.bind (M.idx cycle i1) (fun x3 => M.bind (impl_isNode a_ x3) (fun x4 => M.bind (M.ite (!x4) (M.ret true) (M.bind (impl_isNode a_ s1.2) (fun x6 => M.ret (!x6)))) (fun x5 => M.bind (M.ite x5 (M.ret true) (M.bind (M.sub cycle 0 i1) (fun x8 => M.bind (slices_Contains_int x8 x3) (fun x9 => M.ret x9)))) (fun x7 => M.bind (M.ite x7 (M.ret true) (M.bind (M.idx a_ x3) (fun x11 => M.bind (M.idx x11 s1.2) (fun x12 => M.ret (x12 == (-1000000000000000)))))) (fun x10 => M.ite x10 (M.ret (.inr (.inr (0, false)))) (M.bind (M.idx a_ x3) (fun x13 => M.bind (M.idx x13 s1.2) (fun x14 => M.ret (.inl ((w64 (s1.1 + x14)), x3)))))))))))) (0, x1)) (fun x2 => M.cont x2 (fun s2 => M.ret (s2.1, true)) (fun r => M.ret r))))

def impl_IsCriticalCycle (a_ : List (List Int)) (cycle : List Int) : M (Bool × Int) :=
  M.bind (impl_isSquare a_) (fun x1 => M.ite (!x1) (M.ret (false, 1)) (M.bind (impl_cycleMean a_) (fun x2 => M.ite (!x2.2) (M.ret (false, 4)) (M.bind (impl_cycleWeight a_ cycle) (fun x3 => M.bind (M.ite x3.2 (M.bind (impl_ratioOf x3.1 (cycle.length : Int)) (fun x5 => M.ret ((x5.Num == x2.1.Num) && (x5.Den == x2.1.Den)))) (M.ret false)) (fun x4 => M.ret (x4, 0)))))))

def spec_IsCriticalCycle (a_ : List (List Int)) (cycle : List Int) : M (Bool × Int) :=
  M.bind (spec_l06Code a_) (fun x1 => M.ite (x1 != 0) (M.ret (false, x1)) (M.bind (spec_l04Best a_) (fun x2 => M.bind (spec_l04Mean a_ x2.1) (fun x3 => M.bind (spec_l04Mean a_ cycle) (fun x4 => M.ret ((x4.2 && ((x4.1.Num == x3.1.Num) && (x4.1.Den == x3.1.Den))), 0))))))

def impl_IsCycle (a_ : List (List Int)) (cycle : List Int) : M Bool :=
  M.bind (impl_isSquare a_) (fun x1 => M.ite (!x1) (M.ret false) (M.bind (impl_cycleWeight a_ cycle) (fun x2 => M.ret x2.2)))

def laws_hasInt (list : List Int) (x_ : Int) : M Bool :=
  M.bind (M.forI 0 (list.length : Int) (fun s => .inl s) (fun i1 => (fun (_ : Unit) => M.bind (M.idx list i1) (fun x2 => M.ite (x2 == x_) (M.ret (.inr (.inr true))) (M.ret (.inl ()))))) ()) (fun x1 => M.cont x1 (fun _ => M.ret false) (fun r => M.ret r))

def laws_FnCriticalArcs (code : List Int) : M Bool :=
  M.bind (laws_big code) (fun x1 => M.ite x1 (M.ret true) (M.bind (spec_DrawCriticalArcs code) (fun x2 => M.bind (impl_CriticalArcs x2) (fun x3 => M.bind (spec_CriticalArcs x2) (fun x4 => M.bind (impl_CriticalNodes x2) (fun x5 => M.bind (spec_CriticalNodes x2) (fun x6 => M.bind (impl_CriticalMatrix x2) (fun x7 => M.bind (spec_CriticalMatrix x2) (fun x8 => M.bind (spec_DrawIsCriticalCycle code) (fun x9 => M.bind (impl_IsCriticalCycle x9.1 x9.2) (fun x10 => M.bind (spec_IsCriticalCycle x9.1 x9.2) (fun x11 => M.bind (M.ite (x3.2 != x4.2) (M.ret true) (M.bind (laws_likeTables9 x3.1 x4.1) (fun x13 => M.ret (!x13)))) (fun x12 => M.bind (M.ite (x12 || (x5.2 != x6.2)) (M.ret true) (M.bind (laws_likeInts x5.1 x6.1) (fun x16 => M.ret (!x16)))) (fun x15 => M.bind (M.ite (x15 || (x7.2 != x8.2)) (M.ret true) (M.bind (laws_likeTables9 x7.1 x8.1) (fun x19 => M.ret (!x19)))) (fun x18 => M.ite ((x18 || (x10.2 != x11.2)) || (!(x10.1 == x11.1))) (M.ret false) (M.bind (M.ite (x10.2 == 0) (M.bind (impl_IsCycle x9.1 x9.2) (fun x23 => M.ret x23)) (M.ret false)) (fun x22 => M.ite x22 (M.bind (impl_CriticalArcs x9.1) (fun x24 => M.bind (M.forI 0 (x9.2.length : Int) (fun s => s) (fun i1 => (fun (s1 : Bool) => M.bind (M.forI 0 (x24.1.length : Int) (fun s => s) (fun i2 => (fun (s2 : Bool) => M.bind (M.ite s2 (M.ret true) (M.bind (M.idx x24.1 i2) (fun x28 => M.bind (M.idx x28 0) (fun x29 => M.bind (M.idx x9.2 i1) (fun x30 => M.bind (M.ite (x29 == x30) (M.bind (M.idx x24.1 i2) (fun x32 => M.bind (M.idx x32 1) (fun x33 => M.bind (M.guard ((x9.2.length : Int) != 0)) (fun _ => M.bind (M.idx x9.2 ((w64 (i1 + 1)).tmod (x9.2.length : Int))) (fun x34 => M.ret (x33 == x34)))))) (M.ret false)) (fun x31 => M.ret x31)))))) (fun x27 => M.ret (.inl x27)))) false) (fun x26 => M.ret (.inl (s1 && x26))))) true) (fun x25 => M.ite ((x24.2 != 0) || (!(x25 == x10.1))) (M.ret false) (M.bind (M.loop (fun (s3 : Int) => M.ite ((x3.2 == 0) && (decide (s3 < (x3.1.length : Int)))) (M.bind (M.idx x3.1 s3) (fun x39 => M.bind (M.idx x39 0) (fun x40 => M.bind (laws_hasInt x5.1 x40) (fun x41 => M.bind (M.ite (!x41) (M.ret true) (M.bind (M.idx x3.1 s3) (fun x43 => M.bind (M.idx x43 1) (fun x44 => M.bind (laws_hasInt x5.1 x44) (fun x45 => M.ret (!x45)))))) (fun x42 => M.bind (M.ite x42 (M.ret true) (M.bind (M.idx x3.1 s3) (fun x47 => M.bind (M.idx x47 1) (fun x48 => M.bind (M.idx x7.1 x48) (fun x49 => M.bind (M.idx x3.1 s3) (fun x50 => M.bind (M.idx x50 0) (fun x51 => M.bind (M.idx x49 x51) (fun x52 => M.bind (M.idx x3.1 s3) (fun x53 => M.bind (M.idx x53 1) (fun x54 => M.bind (M.idx x2 x54) (fun x55 => M.bind (M.idx x3.1 s3) (fun x56 => M.bind (M.idx x56 0) (fun x57 => M.bind (M.idx x55 x57) (fun x58 => M.ret (x52 != x58))))))))))))))) (fun x46 => M.ite x46 (M.ret (.inr (.inr false))) (M.ret (.inl (w64 (s3 + 1)))))))))) (M.ret (.inr (.inl s3)))) 0) (fun x37 => M.cont x37 (fun _ => M.ret true) (fun r => M.ret r)))))) (M.bind (M.loop (fun (s5 : Int) => M.ite ((x3.2 == 0) && (decide (s5 < (x3.1.length : Int)))) (M.bind (M.idx x3.1 s5) (fun x61 => M.bind (M.idx x61 0) (fun x62 => M.bind (laws_hasInt x5.1 x62) (fun x63 => M.bind (M.ite (!x63) (M.ret true) (M.bind (M.idx x3.1 s5) (fun x65 => M.bind (M.idx x65 1) (fun x66 => M.bind (laws_hasInt x5.1 x66) (fun x67 => M.ret (!x67)))))) (fun x64 => M.bind (M.ite x64 (M.ret true) (M.bind (M.idx x3.1 s5) (fun x69 => M.bind (M.idx x69 1) (fun x70 => M.bind (M.idx x7.1 x70) (fun x71 => M.bind (M.idx x3.1 s5) (fun x72 => M.bind (M.idx x72 0) (fun x73 => M.bind (M.idx x71 x73) (fun x74 => M.bind (M.idx x3.1 s5) (fun x75 => M.bind (M.idx x75 1) (fun x76 => M.bind (M.idx x2 x76) (fun x77 => M.bind (M.idx x3.1 s5) (fun x78 => M.bind (M.idx x78 0) (fun x79 => M.bind (M.idx x77 x79) (fun x80 => M.ret (x74 != x80))))))))))))))) (fun x68 => M.ite x68 (M.ret (.inr (.inr false))) (M.ret (.inl (w64 (s5 + 1)))))))))) (M.ret (.inr (.inl s5)))) 0) (fun x59 => M.cont x59 (fun _ => M.ret true) (fun r => M.ret r))))))))))))))))))))

end Go.Proofs.YtelopfgolahlpaaGreat
