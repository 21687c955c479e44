/-
  Plain programs: what each Go function that the law reaches computes, on lists and integers.
  Conditions: None beyond the given statement.
-/
import Derived.Test.YtniaobcahkjfjaaM
namespace Go.Proofs.Ytniaobcahkjfjaa
open Go
structure TPlace where
  From : Int
  To : Int
  Delay : Int
  Tokens : Int
structure TGraph where
  Events : Int
  Places : List TPlace
structure TRatio where
  Num : Int
  Den : Int
structure TCorner where
  At : TRatio
  Times : Int
structure TBoundserror where
  x : Int
  y : Int
  signed : Bool
  code : Int
structure TErroraddressstring where
  msg : ByteArray
  addr : Int
def laws_toInt64S (a_ : List Int) : M ((List Int)) :=
  M.bind (M.make (a_.length : Int) 0) (fun l1 => M.bind (M.forI 0 (a_.length : Int) (fun s => s) (fun i1 => (fun (s1 : (List Int)) => M.bind (M.idx a_ i1) (fun x2 => M.bind (M.idx s1 i1) (fun x3 => M.bind (M.upd s1 i1 x2) (fun l2 => M.ret (.inl l2)))))) l1) (fun x1 => M.ret x1))

def spec_l01In (n_ : Int) (low : Int) (high : Int) : M Bool :=
  M.ret ((decide (low ≤ n_)) && (decide (n_ ≤ high)))

def spec_l01Finite (a_ : Int) : M Bool :=
  M.bind (spec_l01In a_ (-1000000) 1000000) (fun x1 => M.ret x1)

def spec_IsValue (a_ : Int) : M Bool :=
  M.bind (M.ite (a_ == (-1000000000000000)) (M.ret true) (M.bind (spec_l01Finite a_) (fun x2 => M.ret x2))) (fun x1 => M.ret x1)

def spec_l01All (list : List Int) (finite : Bool) : M Bool :=
  M.bind (M.forI 0 (list.length : Int) (fun s => .inl s) (fun i1 => (fun (_ : Unit) => M.bind (M.idx list i1) (fun x2 => M.bind (spec_IsValue x2) (fun x3 => M.bind (M.ite (!x3) (M.ret true) (M.bind (M.ite finite (M.bind (M.idx list i1) (fun x6 => M.ret (x6 == (-1000000000000000)))) (M.ret false)) (fun x5 => M.ret x5))) (fun x4 => M.ite x4 (M.ret (.inr (.inr false))) (M.ret (.inl ()))))))) ()) (fun x1 => M.cont x1 (fun _ => M.ret true) (fun r => M.ret r))

def spec_IsPolynomial (c_ : List Int) : M Bool :=
  M.bind (M.ite (decide (12 < (c_.length : Int))) (M.ret true) (M.bind (spec_l01All c_ false) (fun x2 => M.ret (!x2)))) (fun x1 => M.ite x1 (M.ret false) (M.bind (M.forI 0 (c_.length : Int) (fun s => .inl s) (fun i1 => (fun (_ : Unit) => M.bind (M.idx c_ i1) (fun x4 => M.ite (x4 != (-1000000000000000)) (M.ret (.inr (.inr true))) (M.ret (.inl ()))))) ()) (fun x3 => M.cont x3 (fun _ => M.ret false) (fun r => M.ret r))))

def impl_within (n_ : Int) (low : Int) (high : Int) : M Bool :=
  M.ret ((decide (low ≤ n_)) && (decide (n_ ≤ high)))

def impl_isFinite (n_ : Int) : M Bool :=
  M.bind (impl_within n_ (-1000000) 1000000) (fun x1 => M.ret x1)

def impl_IsValue (a_ : Int) : M Bool :=
  M.bind (M.ite (a_ == (-1000000000000000)) (M.ret true) (M.bind (impl_isFinite a_) (fun x2 => M.ret x2))) (fun x1 => M.ret x1)

def impl_areValues_1 (n_ : Int) : M Bool :=
  M.bind (impl_IsValue n_) (fun x1 => M.ret (!x1))

def slices_IndexFunc_int_F_impl_areValues_1 (s_ : List Int) : M Int :=
  M.bind (M.forI 0 (s_.length : Int) (fun s => .inl s) (fun i1 => (fun (_ : Unit) => M.bind (M.idx s_ i1) (fun x2 => M.bind (impl_areValues_1 x2) (fun x3 => M.ite x3 (M.ret (.inr (.inr i1))) (M.ret (.inl ())))))) ()) (fun x1 => M.cont x1 (fun _ => M.ret (-1)) (fun r => M.ret r))

def slices_ContainsFunc_int_F_impl_areValues_1 (s_ : List Int) : M Bool :=
  M.bind (slices_IndexFunc_int_F_impl_areValues_1 s_) (fun x1 => M.ret (decide (0 ≤ x1)))

def impl_areValues (list : List Int) : M Bool :=
  M.bind (slices_ContainsFunc_int_F_impl_areValues_1 list) (fun x1 => M.ret (!x1))

def impl_sumOf (list : List Int) : M Int :=
  M.bind (M.forI 0 (list.length : Int) (fun s => s) (fun i1 => (fun (s1 : Int) => M.bind (M.idx list i1) (fun x2 => M.ret (.inl (mx s1 x2))))) (-1000000000000000)) (fun x1 => M.ret x1)

def impl_IsPolynomial (c_ : List Int) : M Bool :=
  M.bind (impl_within (c_.length : Int) 1 12) (fun x1 => M.bind (M.ite x1 (M.bind (impl_areValues c_) (fun x3 => M.ret x3)) (M.ret false)) (fun x2 => M.bind (M.ite x2 (M.bind (impl_sumOf c_) (fun x5 => M.ret (x5 != (-1000000000000000)))) (M.ret false)) (fun x4 => M.ret x4)))

def laws_eqInt64S (a_ : List Int) (b : List Int) : M Bool :=
  M.ite ((a_.length : Int) != (b.length : Int)) (M.ret false) (M.bind (M.forI 0 (a_.length : Int) (fun s => .inl s) (fun i1 => (fun (_ : Unit) => M.bind (M.idx a_ i1) (fun x2 => M.bind (M.idx b i1) (fun x3 => M.ite (x2 != x3) (M.ret (.inr (.inr false))) (M.ret (.inl ())))))) ()) (fun x1 => M.cont x1 (fun _ => M.ret true) (fun r => M.ret r)))

def laws_heldInt64S (a_ : List Int) (k_ : Int) : M Int :=
  M.bind (M.forI 0 (a_.length : Int) (fun s => .inl s) (fun i1 => (fun (s1 : Int) => M.bind (M.idx a_ i1) (fun x2 => M.ite (x2 != s1) (M.ret (.inr (.inr (-1)))) (M.ret (.inl (w64 (s1 + 1))))))) k_) (fun x1 => M.cont x1 (fun s2 => M.ret s2) (fun r => M.ret r))

def laws_markInt64S (a_ : List Int) (k_ : Int) : M (Int × (List Int)) :=
  M.bind (M.forI 0 (a_.length : Int) (fun s => s) (fun i1 => (fun (s1 : (List Int) × Int) => M.bind (M.idx s1.1 i1) (fun x2 => M.bind (M.upd s1.1 i1 s1.2) (fun l1 => M.ret (.inl (l1, (w64 (s1.2 + 1)))))))) (a_, k_)) (fun x1 => M.ret (x1.2, x1.1))

def spec_l09Terms (c_ : List Int) : M ((List Int)) :=
  M.bind (M.forI 0 (c_.length : Int) (fun s => s) (fun i1 => (fun (s1 : (List Int)) => M.bind (M.bind (M.idx c_ i1) (fun x2 => M.ite (x2 == (-1000000000000000)) (M.ret s1) (M.bind (M.loop (fun (s3 : (List Int)) => M.ite (decide (1 < (s3.length : Int))) (M.bind (M.idx s3 (w64 ((s3.length : Int) - 2))) (fun x4 => M.bind (M.idx s3 (w64 ((s3.length : Int) - 1))) (fun x5 => M.bind (M.idx c_ x5) (fun x6 => M.bind (M.idx c_ x4) (fun x7 => M.bind (M.idx c_ i1) (fun x8 => M.bind (M.idx c_ x5) (fun x9 => M.ite (decide ((w64 ((w64 (x8 - x9)) * (w64 (x5 - x4)))) < (w64 ((w64 (x6 - x7)) * (w64 (i1 - x5)))))) (M.ret (.inr s3)) (M.bind (M.sub s3 0 (w64 ((s3.length : Int) - 1))) (fun x10 => M.ret (.inl x10)))))))))) (M.ret (.inr s3))) s1) (fun x3 => M.bind (M.app x3 ([i1] : List Int)) (fun l1 => M.ret l1))))) (fun (s2 : (List Int)) => M.ret (.inl s2)))) ([] : List Int)) (fun x1 => M.ret x1)

def impl_essentialTerms (c_ : List Int) : M ((List Int)) :=
  M.bind (M.forI 0 (c_.length : Int) (fun s => s) (fun i1 => (fun (s1 : (List Int)) => M.bind (M.bind (M.idx c_ i1) (fun x2 => M.ite (x2 == (-1000000000000000)) (M.ret s1) (M.bind (M.loop (fun (s3 : (List Int)) => M.ite (decide (1 < (s3.length : Int))) (M.bind (M.idx s3 (w64 ((s3.length : Int) - 2))) (fun x4 => M.bind (M.idx s3 (w64 ((s3.length : Int) - 1))) (fun x5 => M.bind (M.idx c_ x5) (fun x6 => M.bind (M.idx c_ x4) (fun x7 => M.bind (M.idx c_ x4) (fun x8 => M.ite (decide ((w64 ((w64 (x2 - x8)) * (w64 (x5 - x4)))) < (w64 ((w64 (x6 - x7)) * (w64 (i1 - x4)))))) (M.ret (.inr s3)) (M.bind (M.sub s3 0 (w64 ((s3.length : Int) - 1))) (fun x9 => M.ret (.inl x9))))))))) (M.ret (.inr s3))) s1) (fun x3 => M.bind (M.app x3 ([i1] : List Int)) (fun l1 => M.ret l1))))) (fun (s2 : (List Int)) => M.ret (.inl s2)))) []) (fun x1 => M.ret x1)

def spec_l01Divisor (a_ : Int) (b : Int) : M Int :=
  M.bind (M.loop (fun (s1 : Int × Int) => M.ite (decide (0 < s1.2)) (M.bind (M.guard (s1.2 != 0)) (fun _ => M.ret (.inl (s1.2, (s1.1.tmod s1.2))))) (M.ret (.inr (s1.1, s1.2)))) ((mx a_ (w64 (0 - a_))), (mx b (w64 (0 - b))))) (fun x1 => M.ret x1.1)

def spec_l01Ratio (num : Int) (den : Int) : M TRatio :=
  M.bind (M.ite (decide (den < 0)) (M.ret ((w64 (0 - num)), (w64 (0 - den)))) (M.ret (num, den))) (fun (s1 : Int × Int) => M.bind (spec_l01Divisor s1.1 s1.2) (fun x1 => M.bind (M.guard (x1 != 0)) (fun _ => M.bind (M.guard (x1 != 0)) (fun _ => M.ret (⟨(w64 (s1.1.tdiv x1)), (w64 (s1.2.tdiv x1))⟩ : TRatio)))))

def spec_IsRatio (r_ : TRatio) : M Bool :=
  M.bind (spec_l01Finite r_.Num) (fun x1 => M.bind (M.ite x1 (M.bind (spec_l01In r_.Den 1 1000000) (fun x3 => M.ret x3)) (M.ret false)) (fun x2 => M.bind (M.ite x2 (M.bind (spec_l01Divisor r_.Num r_.Den) (fun x5 => M.ret (x5 == 1))) (M.ret false)) (fun x4 => M.ret x4)))

def spec_CornersOf (c_ : List Int) : M ((List TCorner) × Int) :=
  M.bind (spec_IsPolynomial c_) (fun x1 => M.ite (!x1) (M.ret (([] : List TCorner), 1)) (M.bind (spec_l09Terms c_) (fun x2 => M.bind (M.forI 1 (x2.length : Int) (fun s => .inl s) (fun i1 => (fun (s1 : (List TCorner)) => M.bind (M.idx x2 (w64 (i1 - 1))) (fun x4 => M.bind (M.idx x2 i1) (fun x5 => M.bind (M.idx c_ x4) (fun x6 => M.bind (M.idx c_ x5) (fun x7 => M.bind (spec_l01Ratio (w64 (x6 - x7)) (w64 (x5 - x4))) (fun x8 => M.bind (spec_IsRatio x8) (fun x9 => M.ite (!x9) (M.ret (.inr (.inr (([] : List TCorner), 3)))) (M.bind (M.app s1 ([⟨x8, (w64 (x5 - x4))⟩] : List TCorner)) (fun l1 => M.ret (.inl l1))))))))))) ([] : List TCorner)) (fun x3 => M.cont x3 (fun s2 => M.ret (s2, 0)) (fun r => M.ret r)))))

def impl_absOf (n_ : Int) : M Int :=
  M.ite (decide (n_ < 0)) (M.ret (w64 (0 - n_))) (M.ret n_)

def impl_divisorOf (a_ : Int) (b : Int) : M Int :=
  M.bind (M.loop (fun (s1 : Int × Int) => M.ite (decide (0 < s1.2)) (M.bind (M.guard (s1.2 != 0)) (fun _ => M.ret (.inl (s1.2, (s1.1.tmod s1.2))))) (M.ret (.inr (s1.1, s1.2)))) (a_, b)) (fun x1 => M.ret x1.1)

def impl_ratioOf (num : Int) (den : Int) : M TRatio :=
  M.bind (M.ite (decide (den < 0)) (M.ret ((w64 (0 - num)), (w64 (0 - den)))) (M.ret (num, den))) (fun (s1 : Int × Int) => M.bind (impl_absOf s1.1) (fun x1 => M.bind (impl_divisorOf x1 s1.2) (fun x2 => M.bind (M.guard (x2 != 0)) (fun _ => M.bind (M.guard (x2 != 0)) (fun _ => M.ret (⟨(w64 (s1.1.tdiv x2)), (w64 (s1.2.tdiv x2))⟩ : TRatio))))))

def impl_IsRatio (r_ : TRatio) : M Bool :=
  M.bind (impl_isFinite r_.Num) (fun x1 => M.bind (M.ite x1 (M.bind (impl_within r_.Den 1 1000000) (fun x3 => M.ret x3)) (M.ret false)) (fun x2 => M.bind (M.ite x2 (M.bind (impl_absOf r_.Num) (fun x5 => M.bind (impl_divisorOf x5 r_.Den) (fun x6 => M.ret (x6 == 1)))) (M.ret false)) (fun x4 => M.ret x4)))

def impl_CornersOf (c_ : List Int) : M ((List TCorner) × Int) :=
  M.bind (impl_IsPolynomial c_) (fun x1 => M.ite (!x1) (M.ret (([] : List TCorner), 1)) (M.bind (impl_essentialTerms c_) (fun x2 => M.bind (M.forI 1 (x2.length : Int) (fun s => .inl s) (fun i1 => (fun (s1 : (List TCorner)) => M.bind (M.idx x2 (w64 (i1 - 1))) (fun x4 => M.bind (M.idx x2 i1) (fun x5 => M.bind (M.idx c_ x4) (fun x6 => M.bind (M.idx c_ x5) (fun x7 => M.bind (impl_ratioOf (w64 (x6 - x7)) (w64 (x5 - x4))) (fun x8 => M.bind (impl_IsRatio x8) (fun x9 => M.ite (!x9) (M.ret (.inr (.inr (([] : List TCorner), 3)))) (M.bind (M.app s1 ([⟨x8, (w64 (x5 - x4))⟩] : List TCorner)) (fun l1 => M.ret (.inl l1))))))))))) []) (fun x3 => M.cont x3 (fun s2 => M.ret (s2, 0)) (fun r => M.ret r)))))

def laws_eqRatio (a_ : TRatio) (b : TRatio) : M Bool :=
  M.ite (a_.Num != b.Num) (M.ret false) (M.ite (a_.Den != b.Den) (M.ret false) (M.ret true))

def laws_eqCorner (a_ : TCorner) (b : TCorner) : M Bool :=
  M.bind (laws_eqRatio a_.At b.At) (fun x1 => M.ite (!x1) (M.ret false) (M.ite (a_.Times != b.Times) (M.ret false) (M.ret true)))

def laws_eqCornerS (a_ : List TCorner) (b : List TCorner) : M Bool :=
  M.ite ((a_.length : Int) != (b.length : Int)) (M.ret false) (M.bind (M.forI 0 (a_.length : Int) (fun s => .inl s) (fun i1 => (fun (_ : Unit) => M.bind (M.idx a_ i1) (fun x2 => M.bind (M.idx b i1) (fun x3 => M.bind (laws_eqCorner x2 x3) (fun x4 => M.ite (!x4) (M.ret (.inr (.inr false))) (M.ret (.inl ()))))))) ()) (fun x1 => M.cont x1 (fun _ => M.ret true) (fun r => M.ret r)))

def laws_heldCornerS (a_ : List TCorner) (k_ : Int) : M Int :=
  M.bind (M.forI 0 (a_.length : Int) (fun s => .inl s) (fun i1 => (fun (s1 : Int) => M.bind (M.idx a_ i1) (fun x2 => M.ite (x2.At.Num != s1) (M.ret (.inr (.inr (-1)))) (M.bind (M.idx a_ i1) (fun x3 => M.ite (x3.At.Den != (w64 (s1 + 1))) (M.ret (.inr (.inr (-1)))) (M.bind (M.idx a_ i1) (fun x4 => M.ite (x4.Times != (w64 ((w64 (s1 + 1)) + 1))) (M.ret (.inr (.inr (-1)))) (M.ret (.inl (w64 ((w64 ((w64 (s1 + 1)) + 1)) + 1))))))))))) k_) (fun x1 => M.cont x1 (fun s2 => M.ret s2) (fun r => M.ret r))

def laws_markCornerS (a_ : List TCorner) (k_ : Int) : M (Int × (List TCorner)) :=
  M.bind (M.forI 0 (a_.length : Int) (fun s => s) (fun i1 => (fun (s1 : (List TCorner) × Int) => M.bind (M.idx s1.1 i1) (fun x2 => M.bind (M.upd s1.1 i1 (⟨⟨s1.2, x2.At.Den⟩, x2.Times⟩ : TCorner)) (fun l1 => M.bind (M.idx l1 i1) (fun x3 => M.bind (M.upd l1 i1 (⟨⟨x3.At.Num, (w64 (s1.2 + 1))⟩, x3.Times⟩ : TCorner)) (fun l2 => M.bind (M.idx l2 i1) (fun x4 => M.bind (M.upd l2 i1 (⟨x4.At, (w64 ((w64 (s1.2 + 1)) + 1))⟩ : TCorner)) (fun l3 => M.ret (.inl (l3, (w64 ((w64 ((w64 (s1.2 + 1)) + 1)) + 1)))))))))))) (a_, k_)) (fun x1 => M.ret (x1.2, x1.1))

def laws_FnExactCornersOf (aC : List Int) : M Bool :=
  M.ite (decide (1048576 < (aC.length : Int))) (M.ret true) (M.bind (laws_toInt64S aC) (fun x1 => M.bind (spec_CornersOf x1) (fun x2 => M.bind (laws_toInt64S aC) (fun x3 => M.bind (impl_CornersOf x3) (fun x4 => M.bind (laws_eqCornerS x4.1 x2.1) (fun x5 => M.ite ((!x5) || (x4.2 != x2.2)) (M.ret false) (M.bind (laws_toInt64S aC) (fun x7 => M.bind (laws_eqInt64S x3 x7) (fun x8 => M.ite (!x8) (M.ret false) (M.bind (laws_markInt64S x3 1) (fun x9 => M.bind (M.ite (decide (x9.1 < 0)) (M.ret true) (M.bind (laws_eqCornerS x4.1 x2.1) (fun x11 => M.ret (!x11)))) (fun x10 => M.ite (x10 || (x4.2 != x2.2)) (M.ret false) (M.bind (laws_markCornerS x4.1 1) (fun x13 => M.bind (laws_heldCornerS x13.2 1) (fun x14 => M.ite (decide (x14 < 0)) (M.ret false) (M.ite (x14 != x13.1) (M.ret false) (M.bind (laws_toInt64S aC) (fun x15 => M.bind (impl_CornersOf x15) (fun x16 => M.bind (laws_eqCornerS x16.1 x2.1) (fun x17 => M.ite ((!x17) || (x16.2 != x2.2)) (M.ret false) (M.bind (laws_heldCornerS x13.2 1) (fun x19 => M.ite (decide (x19 < 0)) (M.ret false) (M.ite (x19 != x13.1) (M.ret false) (M.ret true))))))))))))))))))))))))

end Go.Proofs.Ytniaobcahkjfjaa
