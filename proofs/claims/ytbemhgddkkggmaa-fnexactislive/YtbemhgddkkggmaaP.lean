/-
  Plain programs: what each Go function that the law reaches computes, on lists and integers.
  Conditions: None beyond the given statement.
-/
import Derived.Test.YtbemhgddkkggmaaM
namespace Go.Proofs.Ytbemhgddkkggmaa
open Go
structure TPlace where
  From : Int
  To : Int
  Delay : Int
  Tokens : Int
structure TGraph where
  Events : Int
  Places : List TPlace
structure TBoundserror where
  x : Int
  y : Int
  signed : Bool
  code : Int
structure TErroraddressstring where
  msg : ByteArray
  addr : Int
def spec_l01In (n_ : Int) (low : Int) (high : Int) : M Bool :=
  M.ret ((decide (low ≤ n_)) && (decide (n_ ≤ high)))

def spec_l01Own (list : List Int) : M ((List Int)) :=
  M.bind (M.app ([] : List Int) list) (fun l1 => M.ret l1)

def impl_within (n_ : Int) (low : Int) (high : Int) : M Bool :=
  M.ret ((decide (low ≤ n_)) && (decide (n_ ≤ high)))

def spec_l02Bottom (m_ : Int) (n_ : Int) : M ((List (List Int))) :=
  M.bind (M.forI 0 m_ (fun s => s) (fun _ => (fun (s1 : (List (List Int))) => M.bind (M.forI 0 n_ (fun s => s) (fun _ => (fun (s2 : (List Int)) => M.bind (M.app s2 ([(-1000000000000000)] : List Int)) (fun l1 => M.ret (.inl l1)))) ([] : List Int)) (fun x2 => M.bind (M.app s1 [x2]) (fun l2 => M.ret (.inl l2))))) ([] : List (List Int))) (fun x1 => M.ret x1)

def laws_szPlaceS (a_ : List TPlace) (left : Int) : M Int :=
  M.ite (decide ((w64 (left - (a_.length : Int))) < 0)) (M.ret (-1)) (M.ret (w64 (left - (a_.length : Int))))

def laws_szEventGraph (a_ : TGraph) (left : Int) : M Int :=
  M.bind (laws_szPlaceS a_.Places left) (fun x1 => M.ite (decide (x1 < 0)) (M.ret (-1)) (M.ret x1))

def laws_toPlace (a_ : TPlace) : M TPlace :=
  M.ret (⟨a_.From, a_.To, a_.Delay, a_.Tokens⟩ : TPlace)

def laws_toPlaceS (a_ : List TPlace) : M ((List TPlace)) :=
  M.bind (M.make (a_.length : Int) (⟨0, 0, 0, 0⟩ : TPlace)) (fun l1 => M.bind (M.forI 0 (a_.length : Int) (fun s => s) (fun i1 => (fun (s1 : (List TPlace)) => M.bind (M.idx a_ i1) (fun x2 => M.bind (laws_toPlace x2) (fun x3 => M.bind (M.idx s1 i1) (fun x4 => M.bind (M.upd s1 i1 (x3 : TPlace)) (fun l2 => M.ret (.inl l2))))))) l1) (fun x1 => M.ret x1))

def laws_toEventGraph (a_ : TGraph) : M TGraph :=
  M.bind (laws_toPlaceS a_.Places) (fun x1 => M.ret (⟨a_.Events, x1⟩ : TGraph))

def spec_l11Place (p : TPlace) (events : Int) : M Bool :=
  M.bind (spec_l01In p.From 0 (w64 (events - 1))) (fun x1 => M.bind (M.ite x1 (M.bind (spec_l01In p.To 0 (w64 (events - 1))) (fun x3 => M.ret x3)) (M.ret false)) (fun x2 => M.bind (M.ite x2 (M.bind (spec_l01In p.Delay 0 1000) (fun x5 => M.ret x5)) (M.ret false)) (fun x4 => M.bind (M.ite x4 (M.bind (spec_l01In p.Tokens 0 5) (fun x7 => M.ret x7)) (M.ret false)) (fun x6 => M.ret x6))))

def spec_IsEventGraph (g : TGraph) : M Bool :=
  M.bind (M.loop (fun (s1 : Int) => M.ite (decide (s1 < (g.Places.length : Int))) (M.bind (M.idx g.Places s1) (fun x2 => M.bind (spec_l11Place x2 g.Events) (fun x3 => M.ite (!x3) (M.ret (.inr (.inr false))) (M.ret (.inl (w64 (s1 + 1))))))) (M.ret (.inr (.inl s1)))) 0) (fun x1 => M.cont x1 (fun _ => M.bind (spec_l01In g.Events 1 10) (fun x4 => M.ret (x4 && (decide ((g.Places.length : Int) ≤ 30))))) (fun r => M.ret r))

def impl_isEvent (g : TGraph) (event : Int) : M Bool :=
  M.bind (impl_within event 0 (w64 (g.Events - 1))) (fun x1 => M.ret x1)

def impl_isPlace (g : TGraph) (p : TPlace) : M Bool :=
  M.bind (impl_isEvent g p.From) (fun x1 => M.bind (M.ite x1 (M.bind (impl_isEvent g p.To) (fun x3 => M.ret x3)) (M.ret false)) (fun x2 => M.bind (M.ite x2 (M.bind (impl_within p.Delay 0 1000) (fun x5 => M.ret x5)) (M.ret false)) (fun x4 => M.bind (M.ite x4 (M.bind (impl_within p.Tokens 0 5) (fun x7 => M.ret x7)) (M.ret false)) (fun x6 => M.ret x6))))

def impl_IsEventGraph_1 (p : TPlace) (z0 : TGraph) : M Bool :=
  M.bind (impl_isPlace z0 p) (fun x1 => M.ret (!x1))

def slices_IndexFunc_Place_F_impl_IsEventGraph_1 (s_ : List TPlace) (f0 : TGraph) : M Int :=
  M.bind (M.forI 0 (s_.length : Int) (fun s => .inl s) (fun i1 => (fun (_ : Unit) => M.bind (M.idx s_ i1) (fun x2 => M.bind (impl_IsEventGraph_1 x2 f0) (fun x3 => M.ite x3 (M.ret (.inr (.inr i1))) (M.ret (.inl ())))))) ()) (fun x1 => M.cont x1 (fun _ => M.ret (-1)) (fun r => M.ret r))

def slices_ContainsFunc_Place_F_impl_IsEventGraph_1 (s_ : List TPlace) (f0 : TGraph) : M Bool :=
  M.bind (slices_IndexFunc_Place_F_impl_IsEventGraph_1 s_ f0) (fun x1 => M.ret (decide (0 ≤ x1)))

def impl_IsEventGraph (g : TGraph) : M Bool :=
  M.bind (impl_within g.Events 1 10) (fun x1 => M.bind (M.ite (x1 && (decide ((g.Places.length : Int) ≤ 30))) (M.bind (slices_ContainsFunc_Place_F_impl_IsEventGraph_1 g.Places g) (fun x4 => M.ret (!x4))) (M.ret false)) (fun x3 => M.ret x3))

def laws_eqPlace (a_ : TPlace) (b : TPlace) : M Bool :=
  M.ite (a_.From != b.From) (M.ret false) (M.ite (a_.To != b.To) (M.ret false) (M.ite (a_.Delay != b.Delay) (M.ret false) (M.ite (a_.Tokens != b.Tokens) (M.ret false) (M.ret true))))

def laws_eqPlaceS (a_ : List TPlace) (b : List TPlace) : M Bool :=
  M.ite ((a_.length : Int) != (b.length : Int)) (M.ret false) (M.bind (M.forI 0 (a_.length : Int) (fun s => .inl s) (fun i1 => (fun (_ : Unit) => M.bind (M.idx a_ i1) (fun x2 => M.bind (M.idx b i1) (fun x3 => M.bind (laws_eqPlace x2 x3) (fun x4 => M.ite (!x4) (M.ret (.inr (.inr false))) (M.ret (.inl ()))))))) ()) (fun x1 => M.cont x1 (fun _ => M.ret true) (fun r => M.ret r)))

def laws_eqEventGraph (a_ : TGraph) (b : TGraph) : M Bool :=
  M.ite (a_.Events != b.Events) (M.ret false) (M.bind (laws_eqPlaceS a_.Places b.Places) (fun x1 => M.ite (!x1) (M.ret false) (M.ret true)))

def slices_Index_int (s_ : List Int) (v_ : Int) : M Int :=
  M.bind (M.forI 0 (s_.length : Int) (fun s => .inl s) (fun i1 => (fun (_ : Unit) => M.bind (M.idx s_ i1) (fun x2 => M.ite (v_ == x2) (M.ret (.inr (.inr i1))) (M.ret (.inl ()))))) ()) (fun x1 => M.cont x1 (fun _ => M.ret (-1)) (fun r => M.ret r))

def slices_Contains_int (s_ : List Int) (v_ : Int) : M Bool :=
  M.bind (slices_Index_int s_ v_) (fun x1 => M.ret (decide (0 ≤ x1)))

def spec_l12Free (g : TGraph) : M ((List (List Int))) :=
  M.bind (spec_l02Bottom g.Events g.Events) (fun x1 => M.bind (M.loop (fun (s1 : (List (List Int)) × Int) => M.ite (decide (s1.2 < (g.Places.length : Int))) (M.bind (M.idx g.Places s1.2) (fun x3 => M.bind (M.ite (x3.Tokens == 0) (M.bind (M.idx g.Places s1.2) (fun x4 => M.bind (M.idx s1.1 x4.To) (fun x5 => M.bind (M.idx g.Places s1.2) (fun x6 => M.bind (M.idx x5 x6.From) (fun x7 => M.bind (M.upd x5 x6.From 0) (fun l1 => M.ret (s1.1.set x4.To.toNat l1))))))) (M.ret s1.1)) (fun (s2 : (List (List Int))) => M.ret (.inl (s2, (w64 (s1.2 + 1))))))) (M.ret (.inr (s1.1, s1.2)))) (x1, 0)) (fun x2 => M.ret x2.1))

def spec_l01Has (list : List Int) (x_ : Int) : M Bool :=
  M.bind (M.forI 0 (list.length : Int) (fun s => .inl s) (fun i1 => (fun (_ : Unit) => M.bind (M.idx list i1) (fun x2 => M.ite (x2 == x_) (M.ret (.inr (.inr true))) (M.ret (.inl ()))))) ()) (fun x1 => M.cont x1 (fun _ => M.ret false) (fun r => M.ret r))

def spec_l03Grow_R : Nat → (List (List Int)) → (List Int) → Int → Int → M ((List Int))
  | 0, _, _, _, _ => M.fail
  | kR + 1, a_, path, weight, over => M.bind (M.idx path 0) (fun x1 => M.bind (M.idx path (w64 ((path.length : Int) - 1))) (fun x2 => M.bind (M.idx a_ x1) (fun x3 => M.bind (M.idx x3 x2) (fun x4 => M.bind (M.ite (x4 != (-1000000000000000)) (M.bind (M.idx a_ x1) (fun x6 => M.bind (M.idx x6 x2) (fun x7 => M.ret (decide (over < (w64 (weight + x7))))))) (M.ret false)) (fun x5 => M.ite x5 (M.ret path) (M.bind (M.forI (w64 (x1 + 1)) (a_.length : Int) (fun s => .inl s) (fun i1 => (fun (_ : Unit) => M.bind (M.idx a_ i1) (fun x9 => M.bind (M.idx x9 x2) (fun x10 => M.bind (M.ite (x10 == (-1000000000000000)) (M.ret true) (M.bind (spec_l01Has path i1) (fun x12 => M.ret x12))) (fun x11 => M.ite x11 (M.ret (.inl ())) (M.bind (M.bind (M.idx a_ i1) (fun x15 => M.bind (M.idx x15 x2) (fun x16 => M.bind (spec_l01Own path) (fun x17 => M.bind (M.app x17 ([i1] : List Int)) (fun l1 => M.bind (spec_l03Grow_R kR a_ l1 (w64 (weight + x16)) over) (fun x18 => M.ret x18)))))) (fun (s3 : (List Int)) => M.ite (decide (0 < (s3.length : Int))) (M.ret (.inr (.inr s3))) (M.ret (.inl ()))))))))) ()) (fun x8 => M.cont x8 (fun _ => M.ret ([] : List Int)) (fun r => M.ret r))))))))

def spec_l03Grow (a_ : List (List Int)) (path : List Int) (weight : Int) (over : Int) : M ((List Int)) := fun n => spec_l03Grow_R n a_ path weight over n

def spec_l03Over (a_ : List (List Int)) (over : Int) : M ((List Int)) :=
  M.bind (M.forI 0 (a_.length : Int) (fun s => .inl s) (fun i1 => (fun (_ : Unit) => M.bind (spec_l03Grow a_ ([i1] : List Int) 0 over) (fun x2 => M.ite (decide (0 < (x2.length : Int))) (M.ret (.inr (.inr x2))) (M.ret (.inl ()))))) ()) (fun x1 => M.cont x1 (fun _ => M.ret ([] : List Int)) (fun r => M.ret r))

def spec_l12Dead (g : TGraph) : M ((List Int)) :=
  M.bind (spec_l12Free g) (fun x1 => M.bind (spec_l03Over x1 (-1)) (fun x2 => M.ret x2))

def spec_IsLive (g : TGraph) : M (Bool × Int) :=
  M.bind (spec_IsEventGraph g) (fun x1 => M.ite (!x1) (M.ret (false, 1)) (M.bind (spec_l12Dead g) (fun x2 => M.ret (((x2.length : Int) == 0), 0))))

def impl_firingOrder_1 (p : TPlace) (z0 : Int) (z1 : List Int) : M Bool :=
  M.bind (M.ite ((p.To == z0) && (p.Tokens == 0)) (M.bind (slices_Contains_int z1 p.From) (fun x3 => M.ret (!x3))) (M.ret false)) (fun x2 => M.ret x2)

def slices_IndexFunc_Place_F_impl_firingOrder_1 (s_ : List TPlace) (f0 : Int) (f1 : List Int) : M Int :=
  M.bind (M.forI 0 (s_.length : Int) (fun s => .inl s) (fun i1 => (fun (_ : Unit) => M.bind (M.idx s_ i1) (fun x2 => M.bind (impl_firingOrder_1 x2 f0 f1) (fun x3 => M.ite x3 (M.ret (.inr (.inr i1))) (M.ret (.inl ())))))) ()) (fun x1 => M.cont x1 (fun _ => M.ret (-1)) (fun r => M.ret r))

def slices_ContainsFunc_Place_F_impl_firingOrder_1 (s_ : List TPlace) (f0 : Int) (f1 : List Int) : M Bool :=
  M.bind (slices_IndexFunc_Place_F_impl_firingOrder_1 s_ f0 f1) (fun x1 => M.ret (decide (0 ≤ x1)))

def impl_firingOrder (g : TGraph) : M ((List Int) × Bool) :=
  M.bind (M.loop (fun (s1 : (List Int)) => M.ite (decide ((s1.length : Int) < g.Events)) (M.bind (M.loop (fun (s3 : Int × Int) => M.ite ((decide (s3.2 < g.Events)) && (decide (s3.1 < 0))) (M.bind (M.bind (slices_Contains_int s1 s3.2) (fun x4 => M.ite x4 (M.ret s3.1) (M.bind (slices_ContainsFunc_Place_F_impl_firingOrder_1 g.Places s3.2 s1) (fun x5 => M.ite (!x5) (M.ret s3.2) (M.ret s3.1))))) (fun (s4 : Int) => M.ret (.inl (s4, (w64 (s3.2 + 1)))))) (M.ret (.inr (s3.1, s3.2)))) ((-1), 0)) (fun x2 => M.ite (decide (x2.1 < 0)) (M.ret (.inr (.inr (([] : List Int), false)))) (M.bind (M.app s1 ([x2.1] : List Int)) (fun l1 => M.ret (.inl l1))))) (M.ret (.inr (.inl s1)))) []) (fun x1 => M.cont x1 (fun s2 => M.ret (s2, true)) (fun r => M.ret r))

def impl_isLive (g : TGraph) : M Bool :=
  M.bind (impl_firingOrder g) (fun x1 => M.ret x1.2)

def impl_IsLive (g : TGraph) : M (Bool × Int) :=
  M.bind (impl_IsEventGraph g) (fun x1 => M.ite (!x1) (M.ret (false, 1)) (M.bind (impl_isLive g) (fun x2 => M.ret (x2, 0))))

def laws_FnExactIsLive (aG : TGraph) : M Bool :=
  M.bind (laws_szEventGraph aG 1048576) (fun x1 => M.ite (decide (x1 < 0)) (M.ret true) (M.bind (laws_toEventGraph aG) (fun x2 => M.bind (spec_IsLive x2) (fun x3 => M.bind (laws_toEventGraph aG) (fun x4 => M.bind (impl_IsLive x4) (fun x5 => M.ite ((!(x5.1 == x3.1)) || (x5.2 != x3.2)) (M.ret false) (M.bind (laws_toEventGraph aG) (fun x7 => M.bind (laws_eqEventGraph x4 x7) (fun x8 => M.ite (!x8) (M.ret false) (M.ret true))))))))))

end Go.Proofs.Ytbemhgddkkggmaa
