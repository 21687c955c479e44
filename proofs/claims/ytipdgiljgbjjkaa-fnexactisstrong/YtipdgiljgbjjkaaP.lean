/-
  Plain programs: what each Go function that the law reaches computes, on lists and integers.
  Conditions: None beyond the given statement.
-/
import Derived.Test.YtipdgiljgbjjkaaM
namespace Go.Proofs.Ytipdgiljgbjjkaa
open Go
structure TPlace where
  From : Int
  To : Int
  Delay : Int
  Tokens : Int
structure TGraph where
  Events : Int
  Places : List TPlace
structure TRatio where
  Num : Int
  Den : Int
structure TCorner where
  At : TRatio
  Times : Int
structure TL01source where
  code : List Int
  at_ : Int
  seed : Int
structure TPermanent where
  weight : Int
  count : Int
structure TBoundserror where
  x : Int
  y : Int
  signed : Bool
  code : Int
structure TErroraddressstring where
  msg : ByteArray
  addr : Int
def spec_l01In (n_ : Int) (low : Int) (high : Int) : M Bool :=
  M.ret ((decide (low ≤ n_)) && (decide (n_ ≤ high)))

def impl_within (n_ : Int) (low : Int) (high : Int) : M Bool :=
  M.ret ((decide (low ≤ n_)) && (decide (n_ ≤ high)))

def spec_l02Bottom (m_ : Int) (n_ : Int) : M ((List (List Int))) :=
  M.bind (M.forI 0 m_ (fun s => s) (fun _ => (fun (s1 : (List (List Int))) => M.bind (M.forI 0 n_ (fun s => s) (fun _ => (fun (s2 : (List Int)) => M.bind (M.app s2 ([(-1000000000000000)] : List Int)) (fun l1 => M.ret (.inl l1)))) ([] : List Int)) (fun x2 => M.bind (M.app s1 [x2]) (fun l2 => M.ret (.inl l2))))) ([] : List (List Int))) (fun x1 => M.ret x1)

def laws_szPlaceS (a_ : List TPlace) (left : Int) : M Int :=
  M.ite (decide ((w64 (left - (a_.length : Int))) < 0)) (M.ret (-1)) (M.ret (w64 (left - (a_.length : Int))))

def laws_szEventGraph (a_ : TGraph) (left : Int) : M Int :=
  M.bind (laws_szPlaceS a_.Places left) (fun x1 => M.ite (decide (x1 < 0)) (M.ret (-1)) (M.ret x1))

def laws_toPlace (a_ : TPlace) : M TPlace :=
  M.ret (⟨a_.From, a_.To, a_.Delay, a_.Tokens⟩ : TPlace)

def laws_toPlaceS (a_ : List TPlace) : M ((List TPlace)) :=
  M.bind (M.make (a_.length : Int) (⟨0, 0, 0, 0⟩ : TPlace)) (fun l1 => M.bind (M.forI 0 (a_.length : Int) (fun s => s) (fun i1 => (fun (s1 : (List TPlace)) => M.bind (M.idx a_ i1) (fun x2 => M.bind (laws_toPlace x2) (fun x3 => M.bind (M.idx s1 i1) (fun x4 => M.bind (M.upd s1 i1 (x3 : TPlace)) (fun l2 => M.ret (.inl l2))))))) l1) (fun x1 => M.ret x1))

def laws_toEventGraph (a_ : TGraph) : M TGraph :=
  M.bind (laws_toPlaceS a_.Places) (fun x1 => M.ret (⟨a_.Events, x1⟩ : TGraph))

def spec_l11Place (p : TPlace) (events : Int) : M Bool :=
  M.bind (spec_l01In p.From 0 (w64 (events - 1))) (fun x1 => M.bind (M.ite x1 (M.bind (spec_l01In p.To 0 (w64 (events - 1))) (fun x3 => M.ret x3)) (M.ret false)) (fun x2 => M.bind (M.ite x2 (M.bind (spec_l01In p.Delay 0 1000) (fun x5 => M.ret x5)) (M.ret false)) (fun x4 => M.bind (M.ite x4 (M.bind (spec_l01In p.Tokens 0 5) (fun x7 => M.ret x7)) (M.ret false)) (fun x6 => M.ret x6))))

def spec_IsEventGraph (g : TGraph) : M Bool :=
  M.bind (M.loop (fun (s1 : Int) => M.ite (decide (s1 < (g.Places.length : Int))) (M.bind (M.idx g.Places s1) (fun x2 => M.bind (spec_l11Place x2 g.Events) (fun x3 => M.ite (!x3) (M.ret (.inr (.inr false))) (M.ret (.inl (w64 (s1 + 1))))))) (M.ret (.inr (.inl s1)))) 0) (fun x1 => M.cont x1 (fun _ => M.bind (spec_l01In g.Events 1 10) (fun x4 => M.ret (x4 && (decide ((g.Places.length : Int) ≤ 30))))) (fun r => M.ret r))

def impl_isEvent (g : TGraph) (event : Int) : M Bool :=
  M.bind (impl_within event 0 (w64 (g.Events - 1))) (fun x1 => M.ret x1)

def impl_isPlace (g : TGraph) (p : TPlace) : M Bool :=
  M.bind (impl_isEvent g p.From) (fun x1 => M.bind (M.ite x1 (M.bind (impl_isEvent g p.To) (fun x3 => M.ret x3)) (M.ret false)) (fun x2 => M.bind (M.ite x2 (M.bind (impl_within p.Delay 0 1000) (fun x5 => M.ret x5)) (M.ret false)) (fun x4 => M.bind (M.ite x4 (M.bind (impl_within p.Tokens 0 5) (fun x7 => M.ret x7)) (M.ret false)) (fun x6 => M.ret x6))))

def impl_IsEventGraph_1 (p : TPlace) (z0 : TGraph) : M Bool :=
  M.bind (impl_isPlace z0 p) (fun x1 => M.ret (!x1))

def slices_IndexFunc_Place_F_impl_IsEventGraph_1 (s_ : List TPlace) (f0 : TGraph) : M Int :=
  M.bind (M.forI 0 (s_.length : Int) (fun s => .inl s) (fun i1 => (fun (_ : Unit) => M.bind (M.idx s_ i1) (fun x2 => M.bind (impl_IsEventGraph_1 x2 f0) (fun x3 => M.ite x3 (M.ret (.inr (.inr i1))) (M.ret (.inl ())))))) ()) (fun x1 => M.cont x1 (fun _ => M.ret (-1)) (fun r => M.ret r))

def slices_ContainsFunc_Place_F_impl_IsEventGraph_1 (s_ : List TPlace) (f0 : TGraph) : M Bool :=
  M.bind (slices_IndexFunc_Place_F_impl_IsEventGraph_1 s_ f0) (fun x1 => M.ret (decide (0 ≤ x1)))

def impl_IsEventGraph (g : TGraph) : M Bool :=
  M.bind (impl_within g.Events 1 10) (fun x1 => M.bind (M.ite (x1 && (decide ((g.Places.length : Int) ≤ 30))) (M.bind (slices_ContainsFunc_Place_F_impl_IsEventGraph_1 g.Places g) (fun x4 => M.ret (!x4))) (M.ret false)) (fun x3 => M.ret x3))

def laws_eqPlace (a_ : TPlace) (b : TPlace) : M Bool :=
  M.ite (a_.From != b.From) (M.ret false) (M.ite (a_.To != b.To) (M.ret false) (M.ite (a_.Delay != b.Delay) (M.ret false) (M.ite (a_.Tokens != b.Tokens) (M.ret false) (M.ret true))))

def laws_eqPlaceS (a_ : List TPlace) (b : List TPlace) : M Bool :=
  M.ite ((a_.length : Int) != (b.length : Int)) (M.ret false) (M.bind (M.forI 0 (a_.length : Int) (fun s => .inl s) (fun i1 => (fun (_ : Unit) => M.bind (M.idx a_ i1) (fun x2 => M.bind (M.idx b i1) (fun x3 => M.bind (laws_eqPlace x2 x3) (fun x4 => M.ite (!x4) (M.ret (.inr (.inr false))) (M.ret (.inl ()))))))) ()) (fun x1 => M.cont x1 (fun _ => M.ret true) (fun r => M.ret r)))

def laws_eqEventGraph (a_ : TGraph) (b : TGraph) : M Bool :=
  M.ite (a_.Events != b.Events) (M.ret false) (M.bind (laws_eqPlaceS a_.Places b.Places) (fun x1 => M.ite (!x1) (M.ret false) (M.ret true)))

def spec_l12Tokens (g : TGraph) : M ((List (List Int))) :=
  M.bind (spec_l02Bottom g.Events g.Events) (fun x1 => M.bind (M.loop (fun (s1 : (List (List Int)) × Int) => M.ite (decide (s1.2 < (g.Places.length : Int))) (M.bind (M.idx g.Places s1.2) (fun x3 => M.bind (M.idx s1.1 x3.To) (fun x4 => M.bind (M.idx s1.1 x3.To) (fun x5 => M.bind (M.idx x5 x3.From) (fun x6 => M.bind (M.idx x4 x3.From) (fun x7 => M.bind (M.upd x4 x3.From (mx x6 (w64 (0 - x3.Tokens)))) (fun l1 => M.ret (.inl ((s1.1.set x3.To.toNat l1), (w64 (s1.2 + 1))))))))))) (M.ret (.inr (s1.1, s1.2)))) (x1, 0)) (fun x2 => M.ret x2.1))

def spec_l05Reach (a_ : List (List Int)) : M ((List (List Bool))) :=
  M.bind (M.forI 0 (a_.length : Int) (fun s => s) (fun i1 => (fun (s1 : (List (List Bool))) => M.bind (M.make (a_.length : Int) false) (fun l1 => M.bind (M.idx l1 i1) (fun x2 => M.bind (M.upd l1 i1 true) (fun l2 => M.bind (M.forI 0 (a_.length : Int) (fun s => s) (fun _ => (fun (s2 : (List Bool)) => M.bind (M.forI 0 (a_.length : Int) (fun s => s) (fun i3 => (fun (s3 : (List Bool)) => M.bind (M.forI 0 (a_.length : Int) (fun s => s) (fun i4 => (fun (s4 : (List Bool)) => M.bind (M.idx s4 i4) (fun x6 => M.bind (M.ite x6 (M.bind (M.idx a_ i3) (fun x8 => M.bind (M.idx x8 i4) (fun x9 => M.ret (x9 != (-1000000000000000))))) (M.ret false)) (fun x7 => M.bind (M.ite x7 (M.bind (M.idx s4 i3) (fun x10 => M.bind (M.upd s4 i3 true) (fun l3 => M.ret l3))) (M.ret s4)) (fun (s5 : (List Bool)) => M.ret (.inl s5)))))) s3) (fun x5 => M.ret (.inl x5)))) s2) (fun x4 => M.ret (.inl x4)))) l2) (fun x3 => M.bind (M.app s1 [x3]) (fun l4 => M.ret (.inl l4)))))))) ([] : List (List Bool))) (fun x1 => M.ret x1)

def spec_l05Components (a_ : List (List Int)) : M ((List (List Int))) :=
  M.bind (spec_l05Reach a_) (fun x1 => M.bind (M.forI 0 (a_.length : Int) (fun s => s) (fun i1 => (fun (s1 : (List (List Int))) => M.bind (M.forI 0 (a_.length : Int) (fun s => s) (fun i2 => (fun (s2 : (List Int)) => M.bind (M.idx x1 i1) (fun x4 => M.bind (M.idx x4 i2) (fun x5 => M.bind (M.ite x5 (M.bind (M.idx x1 i2) (fun x7 => M.bind (M.idx x7 i1) (fun x8 => M.ret x8))) (M.ret false)) (fun x6 => M.bind (M.ite x6 (M.bind (M.app s2 ([i2] : List Int)) (fun l1 => M.ret l1)) (M.ret s2)) (fun (s3 : (List Int)) => M.ret (.inl s3))))))) ([] : List Int)) (fun x3 => M.bind (M.idx x3 0) (fun x9 => M.bind (M.ite (x9 == i1) (M.bind (M.app s1 [x3]) (fun l2 => M.ret l2)) (M.ret s1)) (fun (s4 : (List (List Int))) => M.ret (.inl s4)))))) ([] : List (List Int))) (fun x2 => M.ret x2))

def spec_IsStrong (g : TGraph) : M (Bool × Int) :=
  M.bind (spec_IsEventGraph g) (fun x1 => M.ite (!x1) (M.ret (false, 1)) (M.bind (spec_l12Tokens g) (fun x2 => M.bind (spec_l05Components x2) (fun x3 => M.ret (((x3.length : Int) == 1), 0)))))

def impl_tokenDistances (g : TGraph) (from_ : Int) : M ((List Int)) :=
  M.bind (M.make g.Events 0) (fun l1 => M.bind (M.forI 0 (l1.length : Int) (fun s => s) (fun i1 => (fun (s1 : (List Int)) => M.bind (M.idx s1 i1) (fun x2 => M.bind (M.upd s1 i1 (-1)) (fun l2 => M.ret (.inl l2))))) l1) (fun x1 => M.bind (M.idx x1 from_) (fun x3 => M.bind (M.upd x1 from_ 0) (fun l3 => M.bind (M.loop (fun (s2 : (List Int) × Bool) => M.ite s2.2 (M.bind (M.forI 0 (g.Places.length : Int) (fun s => s) (fun i2 => (fun (s3 : (List Int) × Bool) => M.bind (M.bind (M.idx g.Places i2) (fun x6 => M.bind (M.idx s3.1 x6.From) (fun x7 => M.ite (decide (x7 < 0)) (M.ret (s3.1, s3.2)) (M.bind (M.idx s3.1 x6.From) (fun x8 => M.bind (M.idx s3.1 x6.To) (fun x9 => M.bind (M.ite (decide (x9 < 0)) (M.ret true) (M.bind (M.idx s3.1 x6.To) (fun x11 => M.ret (decide ((w64 (x8 + x6.Tokens)) < x11))))) (fun x10 => M.ite x10 (M.bind (M.idx s3.1 x6.To) (fun x12 => M.bind (M.upd s3.1 x6.To (w64 (x8 + x6.Tokens))) (fun l4 => M.ret (l4, true)))) (M.ret (s3.1, s3.2))))))))) (fun (s4 : (List Int) × Bool) => M.ret (.inl (s4.1, s4.2))))) (s2.1, false)) (fun x5 => M.ret (.inl (x5.1, x5.2)))) (M.ret (.inr (s2.1, s2.2)))) (l3, true)) (fun x4 => M.ret x4.1)))))

def slices_Index_int (s_ : List Int) (v_ : Int) : M Int :=
  M.bind (M.forI 0 (s_.length : Int) (fun s => .inl s) (fun i1 => (fun (_ : Unit) => M.bind (M.idx s_ i1) (fun x2 => M.ite (v_ == x2) (M.ret (.inr (.inr i1))) (M.ret (.inl ()))))) ()) (fun x1 => M.cont x1 (fun _ => M.ret (-1)) (fun r => M.ret r))

def slices_Contains_int (s_ : List Int) (v_ : Int) : M Bool :=
  M.bind (slices_Index_int s_ v_) (fun x1 => M.ret (decide (0 ≤ x1)))

def impl_IsStrong (g : TGraph) : M (Bool × Int) :=
  M.bind (impl_IsEventGraph g) (fun x1 => M.ite (!x1) (M.ret (false, 1)) (M.bind (M.forI 0 g.Events (fun s => .inl s) (fun i1 => (fun (_ : Unit) => M.bind (impl_tokenDistances g i1) (fun x3 => M.bind (slices_Contains_int x3 (-1)) (fun x4 => M.ite x4 (M.ret (.inr (.inr (false, 0)))) (M.ret (.inl ())))))) ()) (fun x2 => M.cont x2 (fun _ => M.ret (true, 0)) (fun r => M.ret r))))

def laws_FnExactIsStrong (aG : TGraph) : M Bool :=
  M.bind (laws_szEventGraph aG 1048576) (fun x1 => M.ite (decide (x1 < 0)) (M.ret true) (M.bind (laws_toEventGraph aG) (fun x2 => M.bind (spec_IsStrong x2) (fun x3 => M.bind (laws_toEventGraph aG) (fun x4 => M.bind (impl_IsStrong x4) (fun x5 => M.ite ((!(x5.1 == x3.1)) || (x5.2 != x3.2)) (M.ret false) (M.bind (laws_toEventGraph aG) (fun x7 => M.bind (laws_eqEventGraph x4 x7) (fun x8 => M.ite (!x8) (M.ret false) (M.ret true))))))))))

end Go.Proofs.Ytipdgiljgbjjkaa
