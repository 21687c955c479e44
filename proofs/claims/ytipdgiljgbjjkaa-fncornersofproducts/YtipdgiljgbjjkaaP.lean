/-
  Plain programs: what each Go function that the law reaches computes, on lists and integers.
  Conditions: None beyond the given statement.
-/
import Derived.Test.YtipdgiljgbjjkaaM
namespace Go.Proofs.Ytipdgiljgbjjkaa
open Go
structure TPlace where
  From : Int
  To : Int
  Delay : Int
  Tokens : Int
structure TGraph where
  Events : Int
  Places : List TPlace
structure TRatio where
  Num : Int
  Den : Int
structure TCorner where
  At : TRatio
  Times : Int
structure TL01source where
  code : List Int
  at_ : Int
  seed : Int
structure TPermanent where
  weight : Int
  count : Int
structure TBoundserror where
  x : Int
  y : Int
  signed : Bool
  code : Int
structure TErroraddressstring where
  msg : ByteArray
  addr : Int
def spec_l01In (n_ : Int) (low : Int) (high : Int) : M Bool :=
  M.ret ((decide (low ≤ n_)) && (decide (n_ ≤ high)))

def spec_l01Finite (a_ : Int) : M Bool :=
  M.bind (spec_l01In a_ (-1000000) 1000000) (fun x1 => M.ret x1)

def spec_IsValue (a_ : Int) : M Bool :=
  M.bind (M.ite (a_ == (-1000000000000000)) (M.ret true) (M.bind (spec_l01Finite a_) (fun x2 => M.ret x2))) (fun x1 => M.ret x1)

def spec_l01All (list : List Int) (finite : Bool) : M Bool :=
  M.bind (M.forI 0 (list.length : Int) (fun s => .inl s) (fun i1 => (fun (_ : Unit) => M.bind (M.idx list i1) (fun x2 => M.bind (spec_IsValue x2) (fun x3 => M.bind (M.ite (!x3) (M.ret true) (M.bind (M.ite finite (M.bind (M.idx list i1) (fun x6 => M.ret (x6 == (-1000000000000000)))) (M.ret false)) (fun x5 => M.ret x5))) (fun x4 => M.ite x4 (M.ret (.inr (.inr false))) (M.ret (.inl ()))))))) ()) (fun x1 => M.cont x1 (fun _ => M.ret true) (fun r => M.ret r))

def spec_IsPolynomial (c_ : List Int) : M Bool :=
  M.bind (M.ite (decide (12 < (c_.length : Int))) (M.ret true) (M.bind (spec_l01All c_ false) (fun x2 => M.ret (!x2)))) (fun x1 => M.ite x1 (M.ret false) (M.bind (M.forI 0 (c_.length : Int) (fun s => .inl s) (fun i1 => (fun (_ : Unit) => M.bind (M.idx c_ i1) (fun x4 => M.ite (x4 != (-1000000000000000)) (M.ret (.inr (.inr true))) (M.ret (.inl ()))))) ()) (fun x3 => M.cont x3 (fun _ => M.ret false) (fun r => M.ret r))))

def impl_within (n_ : Int) (low : Int) (high : Int) : M Bool :=
  M.ret ((decide (low ≤ n_)) && (decide (n_ ≤ high)))

def impl_isFinite (n_ : Int) : M Bool :=
  M.bind (impl_within n_ (-1000000) 1000000) (fun x1 => M.ret x1)

def impl_IsValue (a_ : Int) : M Bool :=
  M.bind (M.ite (a_ == (-1000000000000000)) (M.ret true) (M.bind (impl_isFinite a_) (fun x2 => M.ret x2))) (fun x1 => M.ret x1)

def impl_areValues_1 (n_ : Int) : M Bool :=
  M.bind (impl_IsValue n_) (fun x1 => M.ret (!x1))

def slices_IndexFunc_int_F_impl_areValues_1 (s_ : List Int) : M Int :=
  M.bind (M.forI 0 (s_.length : Int) (fun s => .inl s) (fun i1 => (fun (_ : Unit) => M.bind (M.idx s_ i1) (fun x2 => M.bind (impl_areValues_1 x2) (fun x3 => M.ite x3 (M.ret (.inr (.inr i1))) (M.ret (.inl ())))))) ()) (fun x1 => M.cont x1 (fun _ => M.ret (-1)) (fun r => M.ret r))

def slices_ContainsFunc_int_F_impl_areValues_1 (s_ : List Int) : M Bool :=
  M.bind (slices_IndexFunc_int_F_impl_areValues_1 s_) (fun x1 => M.ret (decide (0 ≤ x1)))

def impl_areValues (list : List Int) : M Bool :=
  M.bind (slices_ContainsFunc_int_F_impl_areValues_1 list) (fun x1 => M.ret (!x1))

def impl_sumOf (list : List Int) : M Int :=
  M.bind (M.forI 0 (list.length : Int) (fun s => s) (fun i1 => (fun (s1 : Int) => M.bind (M.idx list i1) (fun x2 => M.ret (.inl (mx s1 x2))))) (-1000000000000000)) (fun x1 => M.ret x1)

def impl_IsPolynomial (c_ : List Int) : M Bool :=
  M.bind (impl_within (c_.length : Int) 1 12) (fun x1 => M.bind (M.ite x1 (M.bind (impl_areValues c_) (fun x3 => M.ret x3)) (M.ret false)) (fun x2 => M.bind (M.ite x2 (M.bind (impl_sumOf c_) (fun x5 => M.ret (x5 != (-1000000000000000)))) (M.ret false)) (fun x4 => M.ret x4)))

def spec_l09Terms (c_ : List Int) : M ((List Int)) :=
  M.bind (M.forI 0 (c_.length : Int) (fun s => s) (fun i1 => (fun (s1 : (List Int)) => M.bind (M.bind (M.idx c_ i1) (fun x2 => M.ite (x2 == (-1000000000000000)) (M.ret s1) (M.bind (M.loop (fun (s3 : (List Int)) => M.ite (decide (1 < (s3.length : Int))) (M.bind (M.idx s3 (w64 ((s3.length : Int) - 2))) (fun x4 => M.bind (M.idx s3 (w64 ((s3.length : Int) - 1))) (fun x5 => M.bind (M.idx c_ x5) (fun x6 => M.bind (M.idx c_ x4) (fun x7 => M.bind (M.idx c_ i1) (fun x8 => M.bind (M.idx c_ x5) (fun x9 => M.ite (decide ((w64 ((w64 (x8 - x9)) * (w64 (x5 - x4)))) < (w64 ((w64 (x6 - x7)) * (w64 (i1 - x5)))))) (M.ret (.inr s3)) (M.bind (M.sub s3 0 (w64 ((s3.length : Int) - 1))) (fun x10 => M.ret (.inl x10)))))))))) (M.ret (.inr s3))) s1) (fun x3 => M.bind (M.app x3 ([i1] : List Int)) (fun l1 => M.ret l1))))) (fun (s2 : (List Int)) => M.ret (.inl s2)))) ([] : List Int)) (fun x1 => M.ret x1)

def impl_essentialTerms (c_ : List Int) : M ((List Int)) :=
  M.bind (M.forI 0 (c_.length : Int) (fun s => s) (fun i1 => (fun (s1 : (List Int)) => M.bind (M.bind (M.idx c_ i1) (fun x2 => M.ite (x2 == (-1000000000000000)) (M.ret s1) (M.bind (M.loop (fun (s3 : (List Int)) => M.ite (decide (1 < (s3.length : Int))) (M.bind (M.idx s3 (w64 ((s3.length : Int) - 2))) (fun x4 => M.bind (M.idx s3 (w64 ((s3.length : Int) - 1))) (fun x5 => M.bind (M.idx c_ x5) (fun x6 => M.bind (M.idx c_ x4) (fun x7 => M.bind (M.idx c_ x4) (fun x8 => M.ite (decide ((w64 ((w64 (x2 - x8)) * (w64 (x5 - x4)))) < (w64 ((w64 (x6 - x7)) * (w64 (i1 - x4)))))) (M.ret (.inr s3)) (M.bind (M.sub s3 0 (w64 ((s3.length : Int) - 1))) (fun x9 => M.ret (.inl x9))))))))) (M.ret (.inr s3))) s1) (fun x3 => M.bind (M.app x3 ([i1] : List Int)) (fun l1 => M.ret l1))))) (fun (s2 : (List Int)) => M.ret (.inl s2)))) []) (fun x1 => M.ret x1)

def spec_l01Times (a_ : Int) (b : Int) : M Int :=
  M.ite ((a_ == (-1000000000000000)) || (b == (-1000000000000000))) (M.ret (-1000000000000000)) (M.ret (w64 (a_ + b)))

def impl_times (a_ : Int) (b : Int) : M Int :=
  M.ite ((a_ == (-1000000000000000)) || (b == (-1000000000000000))) (M.ret (-1000000000000000)) (M.ret (w64 (a_ + b)))

def spec_l02Bottom (m_ : Int) (n_ : Int) : M ((List (List Int))) :=
  M.bind (M.forI 0 m_ (fun s => s) (fun _ => (fun (s1 : (List (List Int))) => M.bind (M.forI 0 n_ (fun s => s) (fun _ => (fun (s2 : (List Int)) => M.bind (M.app s2 ([(-1000000000000000)] : List Int)) (fun l1 => M.ret (.inl l1)))) ([] : List Int)) (fun x2 => M.bind (M.app s1 [x2]) (fun l2 => M.ret (.inl l2))))) ([] : List (List Int))) (fun x1 => M.ret x1)

def spec_l01Floor (a_ : Int) (b : Int) : M Int :=
  M.bind (M.guard (b != 0)) (fun _ => M.bind (M.guard (b != 0)) (fun _ => M.bind (M.ite (decide ((a_.tmod b) < 0)) (M.ret (w64 ((w64 (a_.tdiv b)) - 1))) (M.ret (w64 (a_.tdiv b)))) (fun (s1 : Int) => M.ret s1)))

def spec_FullPolynomial (c_ : List Int) : M ((List Int) × Int) :=
  M.bind (spec_IsPolynomial c_) (fun x1 => M.ite (!x1) (M.ret (([] : List Int), 1)) (M.bind (spec_l09Terms c_) (fun x2 => M.bind (spec_l02Bottom 1 (c_.length : Int)) (fun x3 => M.bind (M.idx x3 0) (fun x4 => M.bind (M.idx x2 0) (fun x5 => M.bind (M.idx x2 0) (fun x6 => M.bind (M.idx c_ x6) (fun x7 => M.bind (M.idx x4 x5) (fun x8 => M.bind (M.upd x4 x5 x7) (fun l1 => M.bind (M.forI 1 (x2.length : Int) (fun s => s) (fun i1 => (fun (s1 : (List Int)) => M.bind (M.idx x2 (w64 (i1 - 1))) (fun x10 => M.bind (M.idx x2 i1) (fun x11 => M.bind (M.loop (fun (s2 : (List Int) × Int) => M.ite (decide (s2.2 ≤ x11)) (M.bind (M.idx c_ x10) (fun x13 => M.bind (M.idx c_ x11) (fun x14 => M.bind (spec_l01Floor (w64 ((w64 (x13 * (w64 (x11 - s2.2)))) + (w64 (x14 * (w64 (s2.2 - x10)))))) (w64 (x11 - x10))) (fun x15 => M.bind (M.idx s2.1 s2.2) (fun x16 => M.bind (M.upd s2.1 s2.2 x15) (fun l2 => M.ret (.inl (l2, (w64 (s2.2 + 1)))))))))) (M.ret (.inr (s2.1, s2.2)))) (s1, (w64 (x10 + 1)))) (fun x12 => M.ret (.inl x12.1)))))) l1) (fun x9 => M.ret (x9, 0))))))))))))

def impl_floorDiv (a_ : Int) (b : Int) : M Int :=
  M.bind (M.guard (b != 0)) (fun _ => M.bind (M.guard (b != 0)) (fun _ => M.bind (M.ite (decide ((a_.tmod b) < 0)) (M.ret (w64 ((w64 (a_.tdiv b)) - 1))) (M.ret (w64 (a_.tdiv b)))) (fun (s1 : Int) => M.ret s1)))

def impl_FullPolynomial (c_ : List Int) : M ((List Int) × Int) :=
  M.bind (impl_IsPolynomial c_) (fun x1 => M.ite (!x1) (M.ret (([] : List Int), 1)) (M.bind (impl_essentialTerms c_) (fun x2 => M.bind (M.make (c_.length : Int) 0) (fun l1 => M.bind (M.forI 0 (l1.length : Int) (fun s => s) (fun i1 => (fun (s1 : (List Int)) => M.bind (M.idx s1 i1) (fun x4 => M.bind (M.upd s1 i1 (-1000000000000000)) (fun l2 => M.ret (.inl l2))))) l1) (fun x3 => M.bind (M.idx x2 0) (fun x5 => M.bind (M.idx x2 0) (fun x6 => M.bind (M.idx c_ x6) (fun x7 => M.bind (M.idx x3 x5) (fun x8 => M.bind (M.upd x3 x5 x7) (fun l3 => M.bind (M.forI 1 (x2.length : Int) (fun s => s) (fun i2 => (fun (s2 : (List Int)) => M.bind (M.idx x2 (w64 (i2 - 1))) (fun x10 => M.bind (M.idx x2 i2) (fun x11 => M.bind (M.loop (fun (s3 : (List Int) × Int) => M.ite (decide (s3.2 ≤ x11)) (M.bind (M.idx c_ x10) (fun x13 => M.bind (M.idx c_ x11) (fun x14 => M.bind (impl_floorDiv (w64 ((w64 (x13 * (w64 (x11 - s3.2)))) + (w64 (x14 * (w64 (s3.2 - x10)))))) (w64 (x11 - x10))) (fun x15 => M.bind (M.idx s3.1 s3.2) (fun x16 => M.bind (M.upd s3.1 s3.2 x15) (fun l4 => M.ret (.inl (l4, (w64 (s3.2 + 1)))))))))) (M.ret (.inr (s3.1, s3.2)))) (s2, x10)) (fun x12 => M.ret (.inl x12.1)))))) l3) (fun x9 => M.ret (x9, 0))))))))))))

def impl_checkedVector (x_ : List Int) : M ((List Int) × Int) :=
  M.bind (impl_areValues x_) (fun x1 => M.ite (!x1) (M.ret (([] : List Int), 3)) (M.ret (x_, 0)))

def spec_MultiplyPolynomials (c_ : List Int) (d : List Int) : M ((List Int) × Int) :=
  M.bind (spec_IsPolynomial c_) (fun x1 => M.bind (M.ite (!x1) (M.ret true) (M.bind (spec_IsPolynomial d) (fun x3 => M.ret (!x3)))) (fun x2 => M.ite x2 (M.ret (([] : List Int), 1)) (M.bind (spec_l02Bottom 1 (w64 ((w64 ((c_.length : Int) + (d.length : Int))) - 1))) (fun x4 => M.bind (M.idx x4 0) (fun x5 => M.bind (M.forI 0 (c_.length : Int) (fun s => s) (fun i1 => (fun (s1 : (List Int)) => M.bind (M.forI 0 (d.length : Int) (fun s => s) (fun i2 => (fun (s2 : (List Int)) => M.bind (M.idx s2 (w64 (i1 + i2))) (fun x8 => M.bind (M.idx c_ i1) (fun x9 => M.bind (M.idx d i2) (fun x10 => M.bind (spec_l01Times x9 x10) (fun x11 => M.bind (M.idx s2 (w64 (i1 + i2))) (fun x12 => M.bind (M.upd s2 (w64 (i1 + i2)) (mx x8 x11)) (fun l1 => M.ret (.inl l1))))))))) s1) (fun x7 => M.ret (.inl x7)))) x5) (fun x6 => M.bind (spec_IsPolynomial x6) (fun x13 => M.ite (!x13) (M.ret (([] : List Int), 3)) (M.ret (x6, 0)))))))))

def impl_MultiplyPolynomials (c_ : List Int) (d : List Int) : M ((List Int) × Int) :=
  M.bind (impl_IsPolynomial c_) (fun x1 => M.bind (M.ite (!x1) (M.ret true) (M.bind (impl_IsPolynomial d) (fun x3 => M.ret (!x3)))) (fun x2 => M.ite x2 (M.ret (([] : List Int), 1)) (M.bind (M.make (w64 ((w64 ((c_.length : Int) + (d.length : Int))) - 1)) 0) (fun l1 => M.ite (decide (12 < (l1.length : Int))) (M.ret (([] : List Int), 3)) (M.bind (M.forI 0 (l1.length : Int) (fun s => s) (fun i1 => (fun (s1 : (List Int)) => M.bind (M.idx s1 i1) (fun x5 => M.bind (M.upd s1 i1 (-1000000000000000)) (fun l2 => M.ret (.inl l2))))) l1) (fun x4 => M.bind (M.forI 0 (c_.length : Int) (fun s => s) (fun i2 => (fun (s2 : (List Int)) => M.bind (M.idx c_ i2) (fun x7 => M.bind (M.forI 0 (d.length : Int) (fun s => s) (fun i3 => (fun (s3 : (List Int)) => M.bind (M.idx d i3) (fun x9 => M.bind (M.idx s3 (w64 (i2 + i3))) (fun x10 => M.bind (impl_times x7 x9) (fun x11 => M.bind (M.idx s3 (w64 (i2 + i3))) (fun x12 => M.bind (M.upd s3 (w64 (i2 + i3)) (mx x10 x11)) (fun l3 => M.ret (.inl l3)))))))) s2) (fun x8 => M.ret (.inl x8))))) x4) (fun x6 => M.bind (impl_checkedVector x6) (fun x13 => M.ret (x13.1, x13.2)))))))))

def spec_l01Divisor (a_ : Int) (b : Int) : M Int :=
  M.bind (M.loop (fun (s1 : Int × Int) => M.ite (decide (0 < s1.2)) (M.bind (M.guard (s1.2 != 0)) (fun _ => M.ret (.inl (s1.2, (s1.1.tmod s1.2))))) (M.ret (.inr (s1.1, s1.2)))) ((mx a_ (w64 (0 - a_))), (mx b (w64 (0 - b))))) (fun x1 => M.ret x1.1)

def spec_l01Ratio (num : Int) (den : Int) : M TRatio :=
  M.bind (M.ite (decide (den < 0)) (M.ret ((w64 (0 - num)), (w64 (0 - den)))) (M.ret (num, den))) (fun (s1 : Int × Int) => M.bind (spec_l01Divisor s1.1 s1.2) (fun x1 => M.bind (M.guard (x1 != 0)) (fun _ => M.bind (M.guard (x1 != 0)) (fun _ => M.ret (⟨(w64 (s1.1.tdiv x1)), (w64 (s1.2.tdiv x1))⟩ : TRatio)))))

def spec_IsRatio (r_ : TRatio) : M Bool :=
  M.bind (spec_l01Finite r_.Num) (fun x1 => M.bind (M.ite x1 (M.bind (spec_l01In r_.Den 1 1000000) (fun x3 => M.ret x3)) (M.ret false)) (fun x2 => M.bind (M.ite x2 (M.bind (spec_l01Divisor r_.Num r_.Den) (fun x5 => M.ret (x5 == 1))) (M.ret false)) (fun x4 => M.ret x4)))

def impl_absOf (n_ : Int) : M Int :=
  M.ite (decide (n_ < 0)) (M.ret (w64 (0 - n_))) (M.ret n_)

def impl_divisorOf (a_ : Int) (b : Int) : M Int :=
  M.bind (M.loop (fun (s1 : Int × Int) => M.ite (decide (0 < s1.2)) (M.bind (M.guard (s1.2 != 0)) (fun _ => M.ret (.inl (s1.2, (s1.1.tmod s1.2))))) (M.ret (.inr (s1.1, s1.2)))) (a_, b)) (fun x1 => M.ret x1.1)

def impl_ratioOf (num : Int) (den : Int) : M TRatio :=
  M.bind (M.ite (decide (den < 0)) (M.ret ((w64 (0 - num)), (w64 (0 - den)))) (M.ret (num, den))) (fun (s1 : Int × Int) => M.bind (impl_absOf s1.1) (fun x1 => M.bind (impl_divisorOf x1 s1.2) (fun x2 => M.bind (M.guard (x2 != 0)) (fun _ => M.bind (M.guard (x2 != 0)) (fun _ => M.ret (⟨(w64 (s1.1.tdiv x2)), (w64 (s1.2.tdiv x2))⟩ : TRatio))))))

def impl_IsRatio (r_ : TRatio) : M Bool :=
  M.bind (impl_isFinite r_.Num) (fun x1 => M.bind (M.ite x1 (M.bind (impl_within r_.Den 1 1000000) (fun x3 => M.ret x3)) (M.ret false)) (fun x2 => M.bind (M.ite x2 (M.bind (impl_absOf r_.Num) (fun x5 => M.bind (impl_divisorOf x5 r_.Den) (fun x6 => M.ret (x6 == 1)))) (M.ret false)) (fun x4 => M.ret x4)))

def laws_big (code : List Int) : M Bool :=
  M.ret (decide (4096 < (code.length : Int)))

def spec_l01From (code : List Int) : M TL01source :=
  M.bind (M.loop (fun (s1 : Int × Int) => M.ite ((decide (s1.2 < (code.length : Int))) && (decide (s1.2 < 64))) (M.bind (M.idx code s1.2) (fun x3 => M.ret (.inl (((w64 ((w64 (s1.1 * 67)) + (w64 (x3)))).tmod 2147483647), (w64 (s1.2 + 1)))))) (M.ret (.inr (s1.1, s1.2)))) (61403, 0)) (fun x1 => M.ret (⟨code, 0, x1.1⟩ : TL01source))

def spec_l01Next (s_ : TL01source) (n_ : Int) : M (Int × TL01source) :=
  M.ite (decide (n_ ≤ 1)) (M.ret (0, s_)) (M.bind (M.ite (decide (s_.at_ < (s_.code.length : Int))) (M.bind (M.idx s_.code s_.at_) (fun x1 => M.ite ((decide (n_ ≤ 256)) && (((w64 (s_.at_ + 1)).tmod 2) == 0)) (M.bind (M.idx s_.code (w64 ((w64 (s_.at_ + 1)) - 1))) (fun x3 => M.ret ((w64 (x3)), (w64 (s_.at_ + 1))))) (M.ret ((w64 ((w64 (((w64 ((w64 (s_.seed * 48271)) + 59)).tmod 2147483647).tdiv 31)) + (w64 (x1)))), (w64 (s_.at_ + 1)))))) (M.ret ((w64 (((w64 ((w64 (s_.seed * 48271)) + 59)).tmod 2147483647).tdiv 31)), s_.at_))) (fun (s1 : Int × Int) => M.bind (M.guard (n_ != 0)) (fun _ => M.ret ((s1.1.tmod n_), (⟨s_.code, s1.2, ((w64 ((w64 (s_.seed * 48271)) + 59)).tmod 2147483647)⟩ : TL01source)))))

def spec_l01Pick (s_ : TL01source) (list : List Int) : M (Int × TL01source × (List Int)) :=
  M.bind (spec_l01Next s_ (list.length : Int)) (fun x1 => M.bind (M.idx list x1.1) (fun x2 => M.ret (x2, (⟨s_.code, x1.2.at_, x1.2.seed⟩ : TL01source), list)))

def laws_likeInts (a_ : List Int) (b : List Int) : M Bool :=
  M.ite ((a_.length : Int) != (b.length : Int)) (M.ret false) (M.bind (M.forI 0 (a_.length : Int) (fun s => .inl s) (fun i1 => (fun (_ : Unit) => M.bind (M.idx a_ i1) (fun x2 => M.bind (M.idx b i1) (fun x3 => M.ite (x2 != x3) (M.ret (.inr (.inr false))) (M.ret (.inl ())))))) ()) (fun x1 => M.cont x1 (fun _ => M.ret true) (fun r => M.ret r)))

def spec_l01DrawValue (s_ : TL01source) : M (Int × TL01source) :=
  M.bind (spec_l01Next s_ 24) (fun x1 => M.bind (M.ite (x1.1 == 0) (M.ret (x1.1 == 0)) (M.ite (x1.1 == 1) (M.ret (x1.1 == 1)) (M.ret (x1.1 == 2)))) (fun (s1 : Bool) => M.ite s1 (M.ret ((-1000000000000000), (⟨s_.code, x1.2.at_, x1.2.seed⟩ : TL01source))) (M.ite (x1.1 == 3) (M.bind (spec_l01Pick (⟨s_.code, x1.2.at_, x1.2.seed⟩ : TL01source) ([1000000, 1000001, (-1000000), (-1000001), (-999999999999999), (-1000000000000001), 9223372036854775807] : List Int)) (fun x2 => M.ret (x2.1, (⟨s_.code, x2.2.1.at_, x2.2.1.seed⟩ : TL01source)))) (M.ite (x1.1 == 4) (M.bind (spec_l01Next (⟨s_.code, x1.2.at_, x1.2.seed⟩ : TL01source) 2000) (fun x3 => M.ret ((w64 ((w64 (x3.1 - 1000)) * 701)), (⟨s_.code, x3.2.at_, x3.2.seed⟩ : TL01source)))) (M.bind (spec_l01Next (⟨s_.code, x1.2.at_, x1.2.seed⟩ : TL01source) 41) (fun x4 => M.ret ((w64 (x4.1 - 20)), (⟨s_.code, x4.2.at_, x4.2.seed⟩ : TL01source))))))))

def spec_CornersOf (c_ : List Int) : M ((List TCorner) × Int) :=
  M.bind (spec_IsPolynomial c_) (fun x1 => M.ite (!x1) (M.ret (([] : List TCorner), 1)) (M.bind (spec_l09Terms c_) (fun x2 => M.bind (M.forI 1 (x2.length : Int) (fun s => .inl s) (fun i1 => (fun (s1 : (List TCorner)) => M.bind (M.idx x2 (w64 (i1 - 1))) (fun x4 => M.bind (M.idx x2 i1) (fun x5 => M.bind (M.idx c_ x4) (fun x6 => M.bind (M.idx c_ x5) (fun x7 => M.bind (spec_l01Ratio (w64 (x6 - x7)) (w64 (x5 - x4))) (fun x8 => M.bind (spec_IsRatio x8) (fun x9 => M.ite (!x9) (M.ret (.inr (.inr (([] : List TCorner), 3)))) (M.bind (M.app s1 ([⟨x8, (w64 (x5 - x4))⟩] : List TCorner)) (fun l1 => M.ret (.inl l1))))))))))) ([] : List TCorner)) (fun x3 => M.cont x3 (fun s2 => M.ret (s2, 0)) (fun r => M.ret r)))))

def impl_CornersOf (c_ : List Int) : M ((List TCorner) × Int) :=
  M.bind (impl_IsPolynomial c_) (fun x1 => M.ite (!x1) (M.ret (([] : List TCorner), 1)) (M.bind (impl_essentialTerms c_) (fun x2 => M.bind (M.forI 1 (x2.length : Int) (fun s => .inl s) (fun i1 => (fun (s1 : (List TCorner)) => M.bind (M.idx x2 (w64 (i1 - 1))) (fun x4 => M.bind (M.idx x2 i1) (fun x5 => M.bind (M.idx c_ x4) (fun x6 => M.bind (M.idx c_ x5) (fun x7 => M.bind (impl_ratioOf (w64 (x6 - x7)) (w64 (x5 - x4))) (fun x8 => M.bind (impl_IsRatio x8) (fun x9 => M.ite (!x9) (M.ret (.inr (.inr (([] : List TCorner), 3)))) (M.bind (M.app s1 ([⟨x8, (w64 (x5 - x4))⟩] : List TCorner)) (fun l1 => M.ret (.inl l1))))))))))) []) (fun x3 => M.cont x3 (fun s2 => M.ret (s2, 0)) (fun r => M.ret r)))))

def spec_l09Draw (s_ : TL01source) : M ((List Int) × TL01source) :=
  M.bind (spec_l01Next s_ 6) (fun x1 => M.bind (M.loop (fun (s1 : Int × Int × (List Int) × Int) => M.ite (decide (0 < s1.2.2.2)) (M.bind (spec_l01Next (⟨s_.code, s1.1, s1.2.1⟩ : TL01source) 21) (fun x3 => M.bind (M.app s1.2.2.1 ([(w64 (x3.1 - 10))] : List Int)) (fun l1 => M.bind (spec_l01Next (⟨s_.code, x3.2.at_, x3.2.seed⟩ : TL01source) 5) (fun x4 => M.bind (M.ite (x4.1 == 0) (M.bind (M.idx l1 (w64 ((l1.length : Int) - 1))) (fun x5 => M.bind (M.upd l1 (w64 ((l1.length : Int) - 1)) (-1000000000000000)) (fun l2 => M.ret l2))) (M.ret l1)) (fun (s2 : (List Int)) => M.ret (.inl (x4.2.at_, x4.2.seed, s2, (w64 (s1.2.2.2 - 1))))))))) (M.ret (.inr (s1.1, s1.2.1, s1.2.2.1, s1.2.2.2)))) (x1.2.at_, x1.2.seed, ([] : List Int), (w64 (1 + x1.1)))) (fun x2 => M.bind (spec_l01Next (⟨s_.code, x2.1, x2.2.1⟩ : TL01source) 60) (fun x6 => M.ite (x6.1 == 0) (M.ret (([(-1000000000000000)] : List Int), (⟨s_.code, x6.2.at_, x6.2.seed⟩ : TL01source))) (M.ite (x6.1 == 1) (M.bind (spec_l01Next (⟨s_.code, x6.2.at_, x6.2.seed⟩ : TL01source) 2) (fun x7 => M.bind (M.make (w64 (12 + x7.1)) 0) (fun l3 => M.ret (l3, (⟨s_.code, x7.2.at_, x7.2.seed⟩ : TL01source))))) (M.bind (M.ite (x6.1 == 2) (M.bind (spec_l01DrawValue (⟨s_.code, x6.2.at_, x6.2.seed⟩ : TL01source)) (fun x8 => M.bind (M.idx x2.2.2.1 0) (fun x9 => M.bind (M.upd x2.2.2.1 0 x8.1) (fun l4 => M.ret (l4, x8.2.at_, x8.2.seed))))) (M.ret (x2.2.2.1, x6.2.at_, x6.2.seed))) (fun (s3 : (List Int) × Int × Int) => M.ret (s3.1, (⟨s_.code, s3.2.1, s3.2.2⟩ : TL01source))))))))

def spec_l09DrawTwo (s_ : TL01source) : M ((List Int) × (List Int) × TL01source) :=
  M.bind (spec_l09Draw s_) (fun x1 => M.bind (spec_l01Next (⟨s_.code, x1.2.at_, x1.2.seed⟩ : TL01source) 3) (fun x2 => M.bind (M.ite (x2.1 == 0) (M.bind (spec_IsPolynomial x1.1) (fun x4 => M.ret x4)) (M.ret false)) (fun x3 => M.ite x3 (M.bind (spec_FullPolynomial x1.1) (fun x5 => M.bind (spec_l01Next (⟨s_.code, x2.2.at_, x2.2.seed⟩ : TL01source) 4) (fun x6 => M.bind (M.ite (x6.1 == 0) (M.bind (spec_l01Next (⟨s_.code, x6.2.at_, x6.2.seed⟩ : TL01source) (x5.1.length : Int)) (fun x7 => M.bind (spec_l01Next (⟨s_.code, x7.2.at_, x7.2.seed⟩ : TL01source) 21) (fun x8 => M.bind (M.idx x5.1 x7.1) (fun x9 => M.bind (M.upd x5.1 x7.1 (w64 (x8.1 - 10))) (fun l1 => M.ret (l1, x8.2.at_, x8.2.seed)))))) (M.ret (x5.1, x6.2.at_, x6.2.seed))) (fun (s1 : (List Int) × Int × Int) => M.ret (x1.1, s1.1, (⟨s_.code, s1.2.1, s1.2.2⟩ : TL01source)))))) (M.bind (spec_l09Draw (⟨s_.code, x2.2.at_, x2.2.seed⟩ : TL01source)) (fun x10 => M.ret (x1.1, x10.1, (⟨s_.code, x10.2.at_, x10.2.seed⟩ : TL01source)))))))

def spec_DrawMultiplyPolynomials (code : List Int) : M ((List Int) × (List Int)) :=
  M.bind (spec_l01From code) (fun x1 => M.bind (spec_l09DrawTwo x1) (fun x2 => M.ret (x2.1, x2.2.1)))

def spec_DrawCornersOf (code : List Int) : M ((List Int)) :=
  M.bind (spec_l01From code) (fun x1 => M.bind (spec_l09Draw x1) (fun x2 => M.ret x2.1))

def laws_FnCornersOfProducts (code : List Int) : M Bool :=
  M.bind (laws_big code) (fun x1 => M.ite x1 (M.ret true) (M.bind (spec_DrawMultiplyPolynomials code) (fun x2 => M.bind (impl_MultiplyPolynomials x2.1 x2.2) (fun x3 => M.bind (spec_MultiplyPolynomials x2.1 x2.2) (fun x4 => M.bind (spec_DrawCornersOf code) (fun x5 => M.bind (impl_CornersOf x5) (fun x6 => M.bind (spec_CornersOf x5) (fun x7 => M.bind (M.ite (x3.2 != x4.2) (M.ret true) (M.bind (laws_likeInts x3.1 x4.1) (fun x9 => M.ret (!x9)))) (fun x8 => M.ite ((x8 || (x6.2 != x7.2)) || ((x6.1.length : Int) != (x7.1.length : Int))) (M.ret false) (M.bind (M.forI 0 (x6.1.length : Int) (fun s => .inl s) (fun i1 => (fun (_ : Unit) => M.bind (M.idx x6.1 i1) (fun x13 => M.bind (M.idx x7.1 i1) (fun x14 => M.ite (!(((x13.At.Num == x14.At.Num) && (x13.At.Den == x14.At.Den)) && (x13.Times == x14.Times))) (M.ret (.inr (.inr false))) (M.ret (.inl ())))))) ()) (fun x12 => M.cont x12 (fun _ => M.ite (x3.2 != 0) (M.ret true) (M.bind (impl_CornersOf x2.1) (fun x15 => M.bind (impl_CornersOf x2.2) (fun x16 => M.bind (impl_CornersOf x3.1) (fun x17 => M.ite (((x15.2 != 0) || (x16.2 != 0)) || (x17.2 != 0)) (M.ret true) (M.bind (M.forI 0 (x17.1.length : Int) (fun s => .inl s) (fun i2 => (fun (s3 : Int) => M.bind (M.forI 0 (x15.1.length : Int) (fun s => s) (fun i3 => (fun (s5 : Int) => M.bind (M.idx x15.1 i3) (fun x22 => M.bind (M.idx x17.1 i2) (fun x23 => M.bind (M.ite ((x22.At.Num == x23.At.Num) && (x22.At.Den == x23.At.Den)) (M.bind (M.idx x15.1 i3) (fun x24 => M.ret (w64 (s5 + x24.Times)))) (M.ret s5)) (fun (s6 : Int) => M.ret (.inl s6)))))) 0) (fun x21 => M.bind (M.forI 0 (x16.1.length : Int) (fun s => s) (fun i4 => (fun (s7 : Int) => M.bind (M.idx x16.1 i4) (fun x26 => M.bind (M.idx x17.1 i2) (fun x27 => M.bind (M.ite ((x26.At.Num == x27.At.Num) && (x26.At.Den == x27.At.Den)) (M.bind (M.idx x16.1 i4) (fun x28 => M.ret (w64 (s7 + x28.Times)))) (M.ret s7)) (fun (s8 : Int) => M.ret (.inl s8)))))) x21) (fun x25 => M.bind (M.idx x17.1 i2) (fun x29 => M.ite (x25 != x29.Times) (M.ret (.inr (.inr false))) (M.ret (.inl (w64 (s3 + x25))))))))) 0) (fun x20 => M.cont x20 (fun s4 => M.bind (M.forI 0 (x15.1.length : Int) (fun s => s) (fun i5 => (fun (s9 : Int) => M.bind (M.idx x15.1 i5) (fun x31 => M.ret (.inl (w64 (s9 - x31.Times)))))) s4) (fun x30 => M.bind (M.forI 0 (x16.1.length : Int) (fun s => s) (fun i6 => (fun (s10 : Int) => M.bind (M.idx x16.1 i6) (fun x33 => M.ret (.inl (w64 (s10 - x33.Times)))))) x30) (fun x32 => M.ret (x32 == 0)))) (fun r => M.ret r)))))))) (fun r => M.ret r))))))))))))

end Go.Proofs.Ytipdgiljgbjjkaa
