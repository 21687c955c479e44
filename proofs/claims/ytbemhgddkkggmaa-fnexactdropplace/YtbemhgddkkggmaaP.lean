/-
  Plain programs: what each Go function that the law reaches computes, on lists and integers.
  Conditions: None beyond the given statement.
-/
import Derived.Test.YtbemhgddkkggmaaM
namespace Go.Proofs.Ytbemhgddkkggmaa
open Go
structure TPlace where
  From : Int
  To : Int
  Delay : Int
  Tokens : Int
structure TGraph where
  Events : Int
  Places : List TPlace
structure TBoundserror where
  x : Int
  y : Int
  signed : Bool
  code : Int
structure TErroraddressstring where
  msg : ByteArray
  addr : Int
def spec_l01In (n_ : Int) (low : Int) (high : Int) : M Bool :=
  M.ret ((decide (low ≤ n_)) && (decide (n_ ≤ high)))

def impl_within (n_ : Int) (low : Int) (high : Int) : M Bool :=
  M.ret ((decide (low ≤ n_)) && (decide (n_ ≤ high)))

def laws_szPlaceS (a_ : List TPlace) (left : Int) : M Int :=
  M.ite (decide ((w64 (left - (a_.length : Int))) < 0)) (M.ret (-1)) (M.ret (w64 (left - (a_.length : Int))))

def laws_szEventGraph (a_ : TGraph) (left : Int) : M Int :=
  M.bind (laws_szPlaceS a_.Places left) (fun x1 => M.ite (decide (x1 < 0)) (M.ret (-1)) (M.ret x1))

def laws_toPlace (a_ : TPlace) : M TPlace :=
  M.ret (⟨a_.From, a_.To, a_.Delay, a_.Tokens⟩ : TPlace)

def laws_toPlaceS (a_ : List TPlace) : M ((List TPlace)) :=
  M.bind (M.make (a_.length : Int) (⟨0, 0, 0, 0⟩ : TPlace)) (fun l1 => M.bind (M.forI 0 (a_.length : Int) (fun s => s) (fun i1 => (fun (s1 : (List TPlace)) => M.bind (M.idx a_ i1) (fun x2 => M.bind (laws_toPlace x2) (fun x3 => M.bind (M.idx s1 i1) (fun x4 => M.bind (M.upd s1 i1 (x3 : TPlace)) (fun l2 => M.ret (.inl l2))))))) l1) (fun x1 => M.ret x1))

def laws_toEventGraph (a_ : TGraph) : M TGraph :=
  M.bind (laws_toPlaceS a_.Places) (fun x1 => M.ret (⟨a_.Events, x1⟩ : TGraph))

def spec_l11Place (p : TPlace) (events : Int) : M Bool :=
  M.bind (spec_l01In p.From 0 (w64 (events - 1))) (fun x1 => M.bind (M.ite x1 (M.bind (spec_l01In p.To 0 (w64 (events - 1))) (fun x3 => M.ret x3)) (M.ret false)) (fun x2 => M.bind (M.ite x2 (M.bind (spec_l01In p.Delay 0 1000) (fun x5 => M.ret x5)) (M.ret false)) (fun x4 => M.bind (M.ite x4 (M.bind (spec_l01In p.Tokens 0 5) (fun x7 => M.ret x7)) (M.ret false)) (fun x6 => M.ret x6))))

def spec_IsEventGraph (g : TGraph) : M Bool :=
  M.bind (M.loop (fun (s1 : Int) => M.ite (decide (s1 < (g.Places.length : Int))) (M.bind (M.idx g.Places s1) (fun x2 => M.bind (spec_l11Place x2 g.Events) (fun x3 => M.ite (!x3) (M.ret (.inr (.inr false))) (M.ret (.inl (w64 (s1 + 1))))))) (M.ret (.inr (.inl s1)))) 0) (fun x1 => M.cont x1 (fun _ => M.bind (spec_l01In g.Events 1 10) (fun x4 => M.ret (x4 && (decide ((g.Places.length : Int) ≤ 30))))) (fun r => M.ret r))

def impl_isEvent (g : TGraph) (event : Int) : M Bool :=
  M.bind (impl_within event 0 (w64 (g.Events - 1))) (fun x1 => M.ret x1)

def impl_isPlace (g : TGraph) (p : TPlace) : M Bool :=
  M.bind (impl_isEvent g p.From) (fun x1 => M.bind (M.ite x1 (M.bind (impl_isEvent g p.To) (fun x3 => M.ret x3)) (M.ret false)) (fun x2 => M.bind (M.ite x2 (M.bind (impl_within p.Delay 0 1000) (fun x5 => M.ret x5)) (M.ret false)) (fun x4 => M.bind (M.ite x4 (M.bind (impl_within p.Tokens 0 5) (fun x7 => M.ret x7)) (M.ret false)) (fun x6 => M.ret x6))))

def impl_IsEventGraph_1 (p : TPlace) (z0 : TGraph) : M Bool :=
  M.bind (impl_isPlace z0 p) (fun x1 => M.ret (!x1))

def slices_IndexFunc_Place_F_impl_IsEventGraph_1 (s_ : List TPlace) (f0 : TGraph) : M Int :=
  M.bind (M.forI 0 (s_.length : Int) (fun s => .inl s) (fun i1 => (fun (_ : Unit) => M.bind (M.idx s_ i1) (fun x2 => M.bind (impl_IsEventGraph_1 x2 f0) (fun x3 => M.ite x3 (M.ret (.inr (.inr i1))) (M.ret (.inl ())))))) ()) (fun x1 => M.cont x1 (fun _ => M.ret (-1)) (fun r => M.ret r))

def slices_ContainsFunc_Place_F_impl_IsEventGraph_1 (s_ : List TPlace) (f0 : TGraph) : M Bool :=
  M.bind (slices_IndexFunc_Place_F_impl_IsEventGraph_1 s_ f0) (fun x1 => M.ret (decide (0 ≤ x1)))

def impl_IsEventGraph (g : TGraph) : M Bool :=
  M.bind (impl_within g.Events 1 10) (fun x1 => M.bind (M.ite (x1 && (decide ((g.Places.length : Int) ≤ 30))) (M.bind (slices_ContainsFunc_Place_F_impl_IsEventGraph_1 g.Places g) (fun x4 => M.ret (!x4))) (M.ret false)) (fun x3 => M.ret x3))

def laws_eqPlace (a_ : TPlace) (b : TPlace) : M Bool :=
  M.ite (a_.From != b.From) (M.ret false) (M.ite (a_.To != b.To) (M.ret false) (M.ite (a_.Delay != b.Delay) (M.ret false) (M.ite (a_.Tokens != b.Tokens) (M.ret false) (M.ret true))))

def laws_eqPlaceS (a_ : List TPlace) (b : List TPlace) : M Bool :=
  M.ite ((a_.length : Int) != (b.length : Int)) (M.ret false) (M.bind (M.forI 0 (a_.length : Int) (fun s => .inl s) (fun i1 => (fun (_ : Unit) => M.bind (M.idx a_ i1) (fun x2 => M.bind (M.idx b i1) (fun x3 => M.bind (laws_eqPlace x2 x3) (fun x4 => M.ite (!x4) (M.ret (.inr (.inr false))) (M.ret (.inl ()))))))) ()) (fun x1 => M.cont x1 (fun _ => M.ret true) (fun r => M.ret r)))

def laws_eqEventGraph (a_ : TGraph) (b : TGraph) : M Bool :=
  M.ite (a_.Events != b.Events) (M.ret false) (M.bind (laws_eqPlaceS a_.Places b.Places) (fun x1 => M.ite (!x1) (M.ret false) (M.ret true)))

def laws_markPlaceS (a_ : List TPlace) (k_ : Int) : M (Int × (List TPlace)) :=
  M.bind (M.forI 0 (a_.length : Int) (fun s => s) (fun i1 => (fun (s1 : (List TPlace) × Int) => M.bind (M.idx s1.1 i1) (fun x2 => M.bind (M.upd s1.1 i1 (⟨s1.2, x2.To, x2.Delay, x2.Tokens⟩ : TPlace)) (fun l1 => M.bind (M.idx l1 i1) (fun x3 => M.bind (M.upd l1 i1 (⟨x3.From, (w64 (s1.2 + 1)), x3.Delay, x3.Tokens⟩ : TPlace)) (fun l2 => M.bind (M.idx l2 i1) (fun x4 => M.bind (M.upd l2 i1 (⟨x4.From, x4.To, (w64 ((w64 (s1.2 + 1)) + 1)), x4.Tokens⟩ : TPlace)) (fun l3 => M.bind (M.idx l3 i1) (fun x5 => M.bind (M.upd l3 i1 (⟨x5.From, x5.To, x5.Delay, (w64 ((w64 ((w64 (s1.2 + 1)) + 1)) + 1))⟩ : TPlace)) (fun l4 => M.ret (.inl (l4, (w64 ((w64 ((w64 ((w64 (s1.2 + 1)) + 1)) + 1)) + 1)))))))))))))) (a_, k_)) (fun x1 => M.ret (x1.2, x1.1))

def laws_markEventGraph (a_ : TGraph) (k_ : Int) : M (Int × (List TPlace)) :=
  M.bind (laws_markPlaceS a_.Places k_) (fun x1 => M.ret (x1.1, x1.2))

def laws_heldPlaceS (a_ : List TPlace) (k_ : Int) : M Int :=
  M.bind (M.forI 0 (a_.length : Int) (fun s => .inl s) (fun i1 => (fun (s1 : Int) => M.bind (M.idx a_ i1) (fun x2 => M.ite (x2.From != s1) (M.ret (.inr (.inr (-1)))) (M.bind (M.idx a_ i1) (fun x3 => M.ite (x3.To != (w64 (s1 + 1))) (M.ret (.inr (.inr (-1)))) (M.bind (M.idx a_ i1) (fun x4 => M.ite (x4.Delay != (w64 ((w64 (s1 + 1)) + 1))) (M.ret (.inr (.inr (-1)))) (M.bind (M.idx a_ i1) (fun x5 => M.ite (x5.Tokens != (w64 ((w64 ((w64 (s1 + 1)) + 1)) + 1))) (M.ret (.inr (.inr (-1)))) (M.ret (.inl (w64 ((w64 ((w64 ((w64 (s1 + 1)) + 1)) + 1)) + 1))))))))))))) k_) (fun x1 => M.cont x1 (fun s2 => M.ret s2) (fun r => M.ret r))

def slices_Clone_Place (s_ : List TPlace) : M ((List TPlace)) :=
  M.bind (M.app ([] : List TPlace) s_) (fun l1 => M.ret l1)

def impl_cloneGraph (g : TGraph) : M TGraph :=
  M.bind (slices_Clone_Place g.Places) (fun x1 => M.ret (⟨g.Events, x1⟩ : TGraph))

def laws_heldEventGraph (a_ : TGraph) (k_ : Int) : M Int :=
  M.bind (laws_heldPlaceS a_.Places k_) (fun x1 => M.ite (decide (x1 < 0)) (M.ret (-1)) (M.ret x1))

def spec_l11Index (g : TGraph) (i : Int) : M Int :=
  M.bind (spec_IsEventGraph g) (fun x1 => M.ite (!x1) (M.ret 1) (M.bind (spec_l01In i 0 (w64 ((g.Places.length : Int) - 1))) (fun x2 => M.ite (!x2) (M.ret 2) (M.ret 0))))

def slices_Delete_Place (s_ : List TPlace) (i : Int) (j : Int) : M ((List TPlace)) :=
  M.bind (M.sub s_ i j) (fun x1 => M.ite (i == j) (M.ret s_) (M.bind (M.sub s_ 0 i) (fun x2 => M.bind (M.sub s_ j (s_.length : Int)) (fun x3 => M.bind (M.app x2 x3) (fun l1 => M.ret l1)))))

def impl_DropPlace (g : TGraph) (i : Int) : M (TGraph × Int) :=
  M.bind (impl_IsEventGraph g) (fun x1 => M.ite (!x1) (M.ret ((⟨0, []⟩ : TGraph), 1)) (M.bind (impl_within i 0 (w64 ((g.Places.length : Int) - 1))) (fun x2 => M.ite (!x2) (M.ret ((⟨0, []⟩ : TGraph), 2)) (M.bind (impl_cloneGraph g) (fun x3 => M.bind (slices_Delete_Place x3.Places i (w64 (i + 1))) (fun x4 => M.ret ((⟨x3.Events, x4⟩ : TGraph), 0)))))))

def spec_DropPlace (g : TGraph) (i : Int) : M (TGraph × Int) :=
  M.bind (spec_l11Index g i) (fun x1 => M.ite (x1 != 0) (M.ret ((⟨0, []⟩ : TGraph), x1)) (M.bind (M.sub g.Places 0 i) (fun x2 => M.bind (M.sub g.Places (w64 (i + 1)) (g.Places.length : Int)) (fun x3 => M.bind (M.app ([] : List TPlace) x2) (fun l1 => M.bind (M.app l1 x3) (fun l2 => M.ret ((⟨g.Events, l2⟩ : TGraph), 0)))))))

def laws_FnExactDropPlace (aG : TGraph) (aI : Int) : M Bool :=
  M.bind (laws_szEventGraph aG 1048576) (fun x1 => M.ite (decide (x1 < 0)) (M.ret true) (M.bind (laws_toEventGraph aG) (fun x2 => M.bind (spec_DropPlace x2 aI) (fun x3 => M.bind (laws_toEventGraph aG) (fun x4 => M.bind (impl_DropPlace x4 aI) (fun x5 => M.bind (laws_eqEventGraph x5.1 x3.1) (fun x6 => M.ite ((!x6) || (x5.2 != x3.2)) (M.ret false) (M.bind (laws_toEventGraph aG) (fun x8 => M.bind (laws_eqEventGraph x4 x8) (fun x9 => M.ite (!x9) (M.ret false) (M.bind (laws_markEventGraph x4 1) (fun x10 => M.bind (M.ite (decide (x10.1 < 0)) (M.ret true) (M.bind (laws_eqEventGraph x5.1 x3.1) (fun x12 => M.ret (!x12)))) (fun x11 => M.ite (x11 || (x5.2 != x3.2)) (M.ret false) (M.bind (laws_markEventGraph x5.1 1) (fun x14 => M.bind (laws_heldEventGraph (⟨x5.1.Events, x14.2⟩ : TGraph) 1) (fun x15 => M.ite (decide (x15 < 0)) (M.ret false) (M.ite (x15 != x14.1) (M.ret false) (M.bind (laws_toEventGraph aG) (fun x16 => M.bind (impl_DropPlace x16 aI) (fun x17 => M.bind (laws_eqEventGraph x17.1 x3.1) (fun x18 => M.ite ((!x18) || (x17.2 != x3.2)) (M.ret false) (M.bind (laws_heldEventGraph (⟨x5.1.Events, x14.2⟩ : TGraph) 1) (fun x20 => M.ite (decide (x20 < 0)) (M.ret false) (M.ite (x20 != x14.1) (M.ret false) (M.ret true)))))))))))))))))))))))))

end Go.Proofs.Ytbemhgddkkggmaa
