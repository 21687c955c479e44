/-
  Plain programs: what each Go function that the law reaches computes, on lists and integers.
  Conditions: None beyond the given statement.
-/
import Derived.Test.YtelopfgolahlpaaM
namespace Go.Proofs.Ytelopfgolahlpaa
open Go
structure TPlace where
  From : Int
  To : Int
  Delay : Int
  Tokens : Int
structure TGraph where
  Events : Int
  Places : List TPlace
structure TRatio where
  Num : Int
  Den : Int
structure TL01source where
  code : List Int
  at_ : Int
  seed : Int
structure TOrbit where
  matrix : List (List Int)
  list : List (List (List Int))
structure TRepeat where
  at_ : Int
  period : Int
  growth : Int
structure TL07series where
  a : List (List Int)
  last : List (List Int)
  lists : List (List Int)
structure TBoundserror where
  x : Int
  y : Int
  signed : Bool
  code : Int
structure TErroraddressstring where
  msg : ByteArray
  addr : Int
def spec_l01In (n_ : Int) (low : Int) (high : Int) : M Bool :=
  M.ret ((decide (low ≤ n_)) && (decide (n_ ≤ high)))

def impl_within (n_ : Int) (low : Int) (high : Int) : M Bool :=
  M.ret ((decide (low ≤ n_)) && (decide (n_ ≤ high)))

def laws_szPlaceS (a_ : List TPlace) (left : Int) : M Int :=
  M.ite (decide ((w64 (left - (a_.length : Int))) < 0)) (M.ret (-1)) (M.ret (w64 (left - (a_.length : Int))))

def laws_szEventGraph (a_ : TGraph) (left : Int) : M Int :=
  M.bind (laws_szPlaceS a_.Places left) (fun x1 => M.ite (decide (x1 < 0)) (M.ret (-1)) (M.ret x1))

def laws_toPlace (a_ : TPlace) : M TPlace :=
  M.ret (⟨a_.From, a_.To, a_.Delay, a_.Tokens⟩ : TPlace)

def laws_toPlaceS (a_ : List TPlace) : M ((List TPlace)) :=
  M.bind (M.make (a_.length : Int) (⟨0, 0, 0, 0⟩ : TPlace)) (fun l1 => M.bind (M.forI 0 (a_.length : Int) (fun s => s) (fun i1 => (fun (s1 : (List TPlace)) => M.bind (M.idx a_ i1) (fun x2 => M.bind (laws_toPlace x2) (fun x3 => M.bind (M.idx s1 i1) (fun x4 => M.bind (M.upd s1 i1 (x3 : TPlace)) (fun l2 => M.ret (.inl l2))))))) l1) (fun x1 => M.ret x1))

def laws_toEventGraph (a_ : TGraph) : M TGraph :=
  M.bind (laws_toPlaceS a_.Places) (fun x1 => M.ret (⟨a_.Events, x1⟩ : TGraph))

def spec_l11Place (p : TPlace) (events : Int) : M Bool :=
  M.bind (spec_l01In p.From 0 (w64 (events - 1))) (fun x1 => M.bind (M.ite x1 (M.bind (spec_l01In p.To 0 (w64 (events - 1))) (fun x3 => M.ret x3)) (M.ret false)) (fun x2 => M.bind (M.ite x2 (M.bind (spec_l01In p.Delay 0 1000) (fun x5 => M.ret x5)) (M.ret false)) (fun x4 => M.bind (M.ite x4 (M.bind (spec_l01In p.Tokens 0 5) (fun x7 => M.ret x7)) (M.ret false)) (fun x6 => M.ret x6))))

def spec_IsEventGraph (g : TGraph) : M Bool :=
  M.bind (M.loop (fun (s1 : Int) => M.ite (decide (s1 < (g.Places.length : Int))) (M.bind (M.idx g.Places s1) (fun x2 => M.bind (spec_l11Place x2 g.Events) (fun x3 => M.ite (!x3) (M.ret (.inr (.inr false))) (M.ret (.inl (w64 (s1 + 1))))))) (M.ret (.inr (.inl s1)))) 0) (fun x1 => M.cont x1 (fun _ => M.bind (spec_l01In g.Events 1 10) (fun x4 => M.ret (x4 && (decide ((g.Places.length : Int) ≤ 30))))) (fun r => M.ret r))

def impl_isEvent (g : TGraph) (event : Int) : M Bool :=
  M.bind (impl_within event 0 (w64 (g.Events - 1))) (fun x1 => M.ret x1)

def impl_isPlace (g : TGraph) (p : TPlace) : M Bool :=
  M.bind (impl_isEvent g p.From) (fun x1 => M.bind (M.ite x1 (M.bind (impl_isEvent g p.To) (fun x3 => M.ret x3)) (M.ret false)) (fun x2 => M.bind (M.ite x2 (M.bind (impl_within p.Delay 0 1000) (fun x5 => M.ret x5)) (M.ret false)) (fun x4 => M.bind (M.ite x4 (M.bind (impl_within p.Tokens 0 5) (fun x7 => M.ret x7)) (M.ret false)) (fun x6 => M.ret x6))))

def impl_IsEventGraph_1 (p : TPlace) (z0 : TGraph) : M Bool :=
  M.bind (impl_isPlace z0 p) (fun x1 => M.ret (!x1))

def slices_IndexFunc_Place_F_impl_IsEventGraph_1 (s_ : List TPlace) (f0 : TGraph) : M Int :=
  M.bind (M.forI 0 (s_.length : Int) (fun s => .inl s) (fun i1 => (fun (_ : Unit) => M.bind (M.idx s_ i1) (fun x2 => M.bind (impl_IsEventGraph_1 x2 f0) (fun x3 => M.ite x3 (M.ret (.inr (.inr i1))) (M.ret (.inl ())))))) ()) (fun x1 => M.cont x1 (fun _ => M.ret (-1)) (fun r => M.ret r))

def slices_ContainsFunc_Place_F_impl_IsEventGraph_1 (s_ : List TPlace) (f0 : TGraph) : M Bool :=
  M.bind (slices_IndexFunc_Place_F_impl_IsEventGraph_1 s_ f0) (fun x1 => M.ret (decide (0 ≤ x1)))

def impl_IsEventGraph (g : TGraph) : M Bool :=
  M.bind (impl_within g.Events 1 10) (fun x1 => M.bind (M.ite (x1 && (decide ((g.Places.length : Int) ≤ 30))) (M.bind (slices_ContainsFunc_Place_F_impl_IsEventGraph_1 g.Places g) (fun x4 => M.ret (!x4))) (M.ret false)) (fun x3 => M.ret x3))

def laws_eqPlace (a_ : TPlace) (b : TPlace) : M Bool :=
  M.ite (a_.From != b.From) (M.ret false) (M.ite (a_.To != b.To) (M.ret false) (M.ite (a_.Delay != b.Delay) (M.ret false) (M.ite (a_.Tokens != b.Tokens) (M.ret false) (M.ret true))))

def laws_eqPlaceS (a_ : List TPlace) (b : List TPlace) : M Bool :=
  M.ite ((a_.length : Int) != (b.length : Int)) (M.ret false) (M.bind (M.forI 0 (a_.length : Int) (fun s => .inl s) (fun i1 => (fun (_ : Unit) => M.bind (M.idx a_ i1) (fun x2 => M.bind (M.idx b i1) (fun x3 => M.bind (laws_eqPlace x2 x3) (fun x4 => M.ite (!x4) (M.ret (.inr (.inr false))) (M.ret (.inl ()))))))) ()) (fun x1 => M.cont x1 (fun _ => M.ret true) (fun r => M.ret r)))

def laws_eqEventGraph (a_ : TGraph) (b : TGraph) : M Bool :=
  M.ite (a_.Events != b.Events) (M.ret false) (M.bind (laws_eqPlaceS a_.Places b.Places) (fun x1 => M.ite (!x1) (M.ret false) (M.ret true)))

def laws_markPlaceS (a_ : List TPlace) (k_ : Int) : M (Int × (List TPlace)) :=
  M.bind (M.forI 0 (a_.length : Int) (fun s => s) (fun i1 => (fun (s1 : (List TPlace) × Int) => M.bind (M.idx s1.1 i1) (fun x2 => M.bind (M.upd s1.1 i1 (⟨s1.2, x2.To, x2.Delay, x2.Tokens⟩ : TPlace)) (fun l1 => M.bind (M.idx l1 i1) (fun x3 => M.bind (M.upd l1 i1 (⟨x3.From, (w64 (s1.2 + 1)), x3.Delay, x3.Tokens⟩ : TPlace)) (fun l2 => M.bind (M.idx l2 i1) (fun x4 => M.bind (M.upd l2 i1 (⟨x4.From, x4.To, (w64 ((w64 (s1.2 + 1)) + 1)), x4.Tokens⟩ : TPlace)) (fun l3 => M.bind (M.idx l3 i1) (fun x5 => M.bind (M.upd l3 i1 (⟨x5.From, x5.To, x5.Delay, (w64 ((w64 ((w64 (s1.2 + 1)) + 1)) + 1))⟩ : TPlace)) (fun l4 => M.ret (.inl (l4, (w64 ((w64 ((w64 ((w64 (s1.2 + 1)) + 1)) + 1)) + 1)))))))))))))) (a_, k_)) (fun x1 => M.ret (x1.2, x1.1))

def laws_markEventGraph (a_ : TGraph) (k_ : Int) : M (Int × (List TPlace)) :=
  M.bind (laws_markPlaceS a_.Places k_) (fun x1 => M.ret (x1.1, x1.2))

def laws_heldPlaceS (a_ : List TPlace) (k_ : Int) : M Int :=
  M.bind (M.forI 0 (a_.length : Int) (fun s => .inl s) (fun i1 => (fun (s1 : Int) => M.bind (M.idx a_ i1) (fun x2 => M.ite (x2.From != s1) (M.ret (.inr (.inr (-1)))) (M.bind (M.idx a_ i1) (fun x3 => M.ite (x3.To != (w64 (s1 + 1))) (M.ret (.inr (.inr (-1)))) (M.bind (M.idx a_ i1) (fun x4 => M.ite (x4.Delay != (w64 ((w64 (s1 + 1)) + 1))) (M.ret (.inr (.inr (-1)))) (M.bind (M.idx a_ i1) (fun x5 => M.ite (x5.Tokens != (w64 ((w64 ((w64 (s1 + 1)) + 1)) + 1))) (M.ret (.inr (.inr (-1)))) (M.ret (.inl (w64 ((w64 ((w64 ((w64 (s1 + 1)) + 1)) + 1)) + 1))))))))))))) k_) (fun x1 => M.cont x1 (fun s2 => M.ret s2) (fun r => M.ret r))

def slices_Clone_Place (s_ : List TPlace) : M ((List TPlace)) :=
  M.bind (M.app ([] : List TPlace) s_) (fun l1 => M.ret l1)

def impl_cloneGraph (g : TGraph) : M TGraph :=
  M.bind (slices_Clone_Place g.Places) (fun x1 => M.ret (⟨g.Events, x1⟩ : TGraph))

def laws_heldEventGraph (a_ : TGraph) (k_ : Int) : M Int :=
  M.bind (laws_heldPlaceS a_.Places k_) (fun x1 => M.ite (decide (x1 < 0)) (M.ret (-1)) (M.ret x1))

def cmp_isNaN_i (x_ : Int) : M Bool :=
  M.ret (x_ != x_)

def cmp_Compare_i (x_ : Int) (y_ : Int) : M Int :=
  M.bind (cmp_isNaN_i x_) (fun x1 => M.bind (cmp_isNaN_i y_) (fun x2 => M.ite x1 (M.ite x2 (M.ret 0) (M.ret (-1))) (M.ite x2 (M.ret 1) (M.ite (decide (x_ < y_)) (M.ret (-1)) (M.ite (decide (y_ < x_)) (M.ret 1) (M.ret 0))))))

def spec_l01Less (a_ : List Int) (b : List Int) : M Bool :=
  M.bind (M.loop (fun (s1 : Int) => M.ite ((decide (s1 < (a_.length : Int))) && (decide (s1 < (b.length : Int)))) (M.bind (M.idx a_ s1) (fun x3 => M.bind (M.idx b s1) (fun x4 => M.ite (x3 != x4) (M.bind (M.idx a_ s1) (fun x5 => M.bind (M.idx b s1) (fun x6 => M.ret (.inr (.inr (decide (x5 < x6))))))) (M.ret (.inl (w64 (s1 + 1))))))) (M.ret (.inr (.inl s1)))) 0) (fun x1 => M.cont x1 (fun _ => M.ret (decide ((a_.length : Int) < (b.length : Int)))) (fun r => M.ret r))

def spec_l11Before (p : TPlace) (q : TPlace) : M Bool :=
  M.bind (spec_l01Less ([p.From, p.To, p.Tokens] : List Int) ([q.From, q.To, q.Tokens] : List Int)) (fun x1 => M.ret x1)

def spec_SimplifyGraph (g : TGraph) : M (TGraph × Int) :=
  M.bind (spec_IsEventGraph g) (fun x1 => M.ite (!x1) (M.ret ((⟨0, []⟩ : TGraph), 1)) (M.bind (M.loop (fun (s1 : (List TPlace) × Int) => M.ite (decide (s1.2 < (g.Places.length : Int))) (M.bind (M.bind (M.idx g.Places s1.2) (fun x3 => M.bind (M.loop (fun (s3 : Int) => M.bind (M.ite (decide (s3 < (s1.1.length : Int))) (M.bind (M.idx s1.1 s3) (fun x6 => M.bind (spec_l11Before x6 x3) (fun x7 => M.ret x7))) (M.ret false)) (fun x5 => M.ite x5 (M.ret (.inl (w64 (s3 + 1)))) (M.ret (.inr s3)))) 0) (fun x4 => M.bind (M.ite (decide (x4 < (s1.1.length : Int))) (M.bind (M.idx s1.1 x4) (fun x9 => M.bind (spec_l11Before x3 x9) (fun x10 => M.ret (!x10)))) (M.ret false)) (fun x8 => M.ite x8 (M.bind (M.idx s1.1 x4) (fun x11 => M.bind (M.idx s1.1 x4) (fun x12 => M.bind (M.upd s1.1 x4 (⟨x12.From, x12.To, (mx x11.Delay x3.Delay), x12.Tokens⟩ : TPlace)) (fun l1 => M.ret l1)))) (M.bind (M.bind (M.sub s1.1 0 x4) (fun x15 => M.bind (M.sub s1.1 x4 (s1.1.length : Int)) (fun x16 => M.bind (M.app ([] : List TPlace) x15) (fun l2 => M.bind (M.app l2 ([x3] : List TPlace)) (fun l3 => M.bind (M.app l3 x16) (fun l4 => M.ret l4)))))) (fun (s4 : (List TPlace)) => M.ret s4)))))) (fun (s2 : (List TPlace)) => M.ret (.inl (s2, (w64 (s1.2 + 1)))))) (M.ret (.inr (s1.1, s1.2)))) (([] : List TPlace), 0)) (fun x2 => M.ret ((⟨g.Events, x2.1⟩ : TGraph), 0))))

def cmp_Or_n (vals : List Int) : M Int :=
  M.bind (M.forI 0 (vals.length : Int) (fun s => .inl s) (fun i1 => (fun (_ : Unit) => M.bind (M.idx vals i1) (fun x2 => M.ite (x2 != 0) (M.ret (.inr (.inr x2))) (M.ret (.inl ()))))) ()) (fun x1 => M.cont x1 (fun _ => M.ret 0) (fun r => M.ret r))

def impl_simplified_1 (p : TPlace) (q : TPlace) : M Int :=
  M.bind (cmp_Compare_i p.From q.From) (fun x1 => M.bind (cmp_Compare_i p.To q.To) (fun x2 => M.bind (cmp_Compare_i p.Tokens q.Tokens) (fun x3 => M.bind (cmp_Compare_i q.Delay p.Delay) (fun x4 => M.bind (cmp_Or_n ([x1, x2, x3, x4] : List Int)) (fun x5 => M.ret x5)))))

def impl_simplified_2 (p : TPlace) (q : TPlace) : M Bool :=
  M.ret (((p.From == q.From) && (p.To == q.To)) && (p.Tokens == q.Tokens))

def cmpI (x y : Int) : Int := if x < y then -1 else if y < x then 1 else 0

def placeCmp (p q : TPlace) : Int := if cmpI p.From q.From ≠ 0 then cmpI p.From q.From else if cmpI p.To q.To ≠ 0 then cmpI p.To q.To else if cmpI p.Tokens q.Tokens ≠ 0 then cmpI p.Tokens q.Tokens else cmpI q.Delay p.Delay

def slices_SortFunc_Place_F_impl_simplified_1 (x_ : List TPlace) : M (List TPlace) :=
  M.bind (M.guard (decide (x_.length ≤ 1099511627776))) (fun _ => M.ret (x_.mergeSort fun x y => !(decide (placeCmp y x < 0))))

def slices_CompactFunc_Place_F_impl_simplified_2 (s_ : List TPlace) : M ((List TPlace)) :=
  M.ite (decide ((s_.length : Int) < 2)) (M.ret s_) (M.bind (M.loop (fun (s1 : Int) => M.ite (decide (s1 < (s_.length : Int))) (M.bind (M.idx s_ s1) (fun x2 => M.bind (M.idx s_ (w64 (s1 - 1))) (fun x3 => M.bind (impl_simplified_2 x2 x3) (fun x4 => M.ite x4 (M.bind (M.sub s_ s1 (s_.length : Int)) (fun x5 => M.bind (M.forI 1 (((s_.length : Int).toNat - (s1 : Int).toNat : Nat) : Int) (fun s => s) (fun i1 => (fun (s3 : (List TPlace) × Int) => M.bind (M.idx (List.take ((s_.length : Int).toNat - (s1 : Int).toNat) (List.drop (s1 : Int).toNat s3.1)) i1) (fun x7 => M.bind (M.idx (List.take ((s_.length : Int).toNat - (s1 : Int).toNat) (List.drop (s1 : Int).toNat s3.1)) (w64 (i1 - 1))) (fun x8 => M.bind (impl_simplified_2 x7 x8) (fun x9 => M.bind (M.ite (!x9) (M.bind (M.idx (List.take ((s_.length : Int).toNat - (s1 : Int).toNat) (List.drop (s1 : Int).toNat s3.1)) i1) (fun x10 => M.bind (M.idx s3.1 s3.2) (fun x11 => M.bind (M.upd s3.1 s3.2 (x10 : TPlace)) (fun l1 => M.ret (l1, (w64 (s3.2 + 1))))))) (M.ret (s3.1, s3.2))) (fun (s4 : (List TPlace) × Int) => M.ret (.inl (s4.1, s4.2)))))))) (s_, s1)) (fun x6 => M.bind (M.sub x6.1 x6.2 (s_.length : Int)) (fun x12 => M.bind (M.sub (x6.1.take x6.2.toNat ++ List.replicate ((s_.length : Int).toNat - (x6.2 : Int).toNat) (⟨0, 0, 0, 0⟩ : TPlace)) 0 x6.2) (fun x13 => M.ret (.inr (.inr x13))))))) (M.ret (.inl (w64 (s1 + 1)))))))) (M.ret (.inr (.inl s1)))) 1) (fun x1 => M.cont x1 (fun _ => M.ret s_) (fun r => M.ret r)))

def impl_simplified (g : TGraph) : M TGraph :=
  M.bind (impl_cloneGraph g) (fun x1 => M.bind (slices_SortFunc_Place_F_impl_simplified_1 x1.Places) (fun x2 => M.bind (slices_CompactFunc_Place_F_impl_simplified_2 x2) (fun x3 => M.ret (⟨x1.Events, x3⟩ : TGraph))))

def impl_SimplifyGraph (g : TGraph) : M (TGraph × Int) :=
  M.bind (impl_IsEventGraph g) (fun x1 => M.ite (!x1) (M.ret ((⟨0, []⟩ : TGraph), 1)) (M.bind (impl_simplified g) (fun x2 => M.ret (x2, 0))))

def laws_FnExactSimplifyGraph (aG : TGraph) : M Bool :=
  M.bind (laws_szEventGraph aG 1048576) (fun x1 => M.ite (decide (x1 < 0)) (M.ret true) (M.bind (laws_toEventGraph aG) (fun x2 => M.bind (spec_SimplifyGraph x2) (fun x3 => M.bind (laws_toEventGraph aG) (fun x4 => M.bind (impl_SimplifyGraph x4) (fun x5 => M.bind (laws_eqEventGraph x5.1 x3.1) (fun x6 => M.ite ((!x6) || (x5.2 != x3.2)) (M.ret false) (M.bind (laws_toEventGraph aG) (fun x8 => M.bind (laws_eqEventGraph x4 x8) (fun x9 => M.ite (!x9) (M.ret false) (M.bind (laws_markEventGraph x4 1) (fun x10 => M.bind (M.ite (decide (x10.1 < 0)) (M.ret true) (M.bind (laws_eqEventGraph x5.1 x3.1) (fun x12 => M.ret (!x12)))) (fun x11 => M.ite (x11 || (x5.2 != x3.2)) (M.ret false) (M.bind (laws_markEventGraph x5.1 1) (fun x14 => M.bind (laws_heldEventGraph (⟨x5.1.Events, x14.2⟩ : TGraph) 1) (fun x15 => M.ite (decide (x15 < 0)) (M.ret false) (M.ite (x15 != x14.1) (M.ret false) (M.bind (laws_toEventGraph aG) (fun x16 => M.bind (impl_SimplifyGraph x16) (fun x17 => M.bind (laws_eqEventGraph x17.1 x3.1) (fun x18 => M.ite ((!x18) || (x17.2 != x3.2)) (M.ret false) (M.bind (laws_heldEventGraph (⟨x5.1.Events, x14.2⟩ : TGraph) 1) (fun x20 => M.ite (decide (x20 < 0)) (M.ret false) (M.ite (x20 != x14.1) (M.ret false) (M.ret true)))))))))))))))))))))))))

end Go.Proofs.Ytelopfgolahlpaa
