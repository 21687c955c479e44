/-
  Plain programs: what each Go function that the law reaches computes, on lists and integers.
  Conditions: None beyond the given statement.
-/
import Derived.Test.YtipdgiljgbjjkaaM
namespace Go.Proofs.Ytipdgiljgbjjkaa
open Go
structure TPlace where
  From : Int
  To : Int
  Delay : Int
  Tokens : Int
structure TGraph where
  Events : Int
  Places : List TPlace
structure TRatio where
  Num : Int
  Den : Int
structure TCorner where
  At : TRatio
  Times : Int
structure TL01source where
  code : List Int
  at_ : Int
  seed : Int
structure TPermanent where
  weight : Int
  count : Int
structure TBoundserror where
  x : Int
  y : Int
  signed : Bool
  code : Int
structure TErroraddressstring where
  msg : ByteArray
  addr : Int
def spec_l01In (n_ : Int) (low : Int) (high : Int) : M Bool :=
  M.ret ((decide (low ≤ n_)) && (decide (n_ ≤ high)))

def impl_within (n_ : Int) (low : Int) (high : Int) : M Bool :=
  M.ret ((decide (low ≤ n_)) && (decide (n_ ≤ high)))

def spec_l11Place (p : TPlace) (events : Int) : M Bool :=
  M.bind (spec_l01In p.From 0 (w64 (events - 1))) (fun x1 => M.bind (M.ite x1 (M.bind (spec_l01In p.To 0 (w64 (events - 1))) (fun x3 => M.ret x3)) (M.ret false)) (fun x2 => M.bind (M.ite x2 (M.bind (spec_l01In p.Delay 0 1000) (fun x5 => M.ret x5)) (M.ret false)) (fun x4 => M.bind (M.ite x4 (M.bind (spec_l01In p.Tokens 0 5) (fun x7 => M.ret x7)) (M.ret false)) (fun x6 => M.ret x6))))

def spec_IsEventGraph (g : TGraph) : M Bool :=
  M.bind (M.loop (fun (s1 : Int) => M.ite (decide (s1 < (g.Places.length : Int))) (M.bind (M.idx g.Places s1) (fun x2 => M.bind (spec_l11Place x2 g.Events) (fun x3 => M.ite (!x3) (M.ret (.inr (.inr false))) (M.ret (.inl (w64 (s1 + 1))))))) (M.ret (.inr (.inl s1)))) 0) (fun x1 => M.cont x1 (fun _ => M.bind (spec_l01In g.Events 1 10) (fun x4 => M.ret (x4 && (decide ((g.Places.length : Int) ≤ 30))))) (fun r => M.ret r))

def impl_isEvent (g : TGraph) (event : Int) : M Bool :=
  M.bind (impl_within event 0 (w64 (g.Events - 1))) (fun x1 => M.ret x1)

def impl_isPlace (g : TGraph) (p : TPlace) : M Bool :=
  M.bind (impl_isEvent g p.From) (fun x1 => M.bind (M.ite x1 (M.bind (impl_isEvent g p.To) (fun x3 => M.ret x3)) (M.ret false)) (fun x2 => M.bind (M.ite x2 (M.bind (impl_within p.Delay 0 1000) (fun x5 => M.ret x5)) (M.ret false)) (fun x4 => M.bind (M.ite x4 (M.bind (impl_within p.Tokens 0 5) (fun x7 => M.ret x7)) (M.ret false)) (fun x6 => M.ret x6))))

def impl_IsEventGraph_1 (p : TPlace) (z0 : TGraph) : M Bool :=
  M.bind (impl_isPlace z0 p) (fun x1 => M.ret (!x1))

def slices_IndexFunc_Place_F_impl_IsEventGraph_1 (s_ : List TPlace) (f0 : TGraph) : M Int :=
  M.bind (M.forI 0 (s_.length : Int) (fun s => .inl s) (fun i1 => (fun (_ : Unit) => M.bind (M.idx s_ i1) (fun x2 => M.bind (impl_IsEventGraph_1 x2 f0) (fun x3 => M.ite x3 (M.ret (.inr (.inr i1))) (M.ret (.inl ())))))) ()) (fun x1 => M.cont x1 (fun _ => M.ret (-1)) (fun r => M.ret r))

def slices_ContainsFunc_Place_F_impl_IsEventGraph_1 (s_ : List TPlace) (f0 : TGraph) : M Bool :=
  M.bind (slices_IndexFunc_Place_F_impl_IsEventGraph_1 s_ f0) (fun x1 => M.ret (decide (0 ≤ x1)))

def impl_IsEventGraph (g : TGraph) : M Bool :=
  M.bind (impl_within g.Events 1 10) (fun x1 => M.bind (M.ite (x1 && (decide ((g.Places.length : Int) ≤ 30))) (M.bind (slices_ContainsFunc_Place_F_impl_IsEventGraph_1 g.Places g) (fun x4 => M.ret (!x4))) (M.ret false)) (fun x3 => M.ret x3))

def spec_l11Places (g : TGraph) (event : Int) (into : Bool) : M ((List Int)) :=
  M.bind (M.loop (fun (s1 : (List Int) × Int) => M.ite (decide (s1.2 < (g.Places.length : Int))) (M.bind (M.ite into (M.bind (M.idx g.Places s1.2) (fun x3 => M.ret (x3.To == event))) (M.ret false)) (fun x2 => M.bind (M.ite x2 (M.ret true) (M.bind (M.ite (!into) (M.bind (M.idx g.Places s1.2) (fun x6 => M.ret (x6.From == event))) (M.ret false)) (fun x5 => M.ret x5))) (fun x4 => M.bind (M.ite x4 (M.bind (M.app s1.1 ([s1.2] : List Int)) (fun l1 => M.ret l1)) (M.ret s1.1)) (fun (s2 : (List Int)) => M.ret (.inl (s2, (w64 (s1.2 + 1)))))))) (M.ret (.inr (s1.1, s1.2)))) (([] : List Int), 0)) (fun x1 => M.ret x1.1)

def laws_big (code : List Int) : M Bool :=
  M.ret (decide (4096 < (code.length : Int)))

def spec_l01From (code : List Int) : M TL01source :=
  M.bind (M.loop (fun (s1 : Int × Int) => M.ite ((decide (s1.2 < (code.length : Int))) && (decide (s1.2 < 64))) (M.bind (M.idx code s1.2) (fun x3 => M.ret (.inl (((w64 ((w64 (s1.1 * 67)) + (w64 (x3)))).tmod 2147483647), (w64 (s1.2 + 1)))))) (M.ret (.inr (s1.1, s1.2)))) (61403, 0)) (fun x1 => M.ret (⟨code, 0, x1.1⟩ : TL01source))

def spec_l01Next (s_ : TL01source) (n_ : Int) : M (Int × TL01source) :=
  M.ite (decide (n_ ≤ 1)) (M.ret (0, s_)) (M.bind (M.ite (decide (s_.at_ < (s_.code.length : Int))) (M.bind (M.idx s_.code s_.at_) (fun x1 => M.ite ((decide (n_ ≤ 256)) && (((w64 (s_.at_ + 1)).tmod 2) == 0)) (M.bind (M.idx s_.code (w64 ((w64 (s_.at_ + 1)) - 1))) (fun x3 => M.ret ((w64 (x3)), (w64 (s_.at_ + 1))))) (M.ret ((w64 ((w64 (((w64 ((w64 (s_.seed * 48271)) + 59)).tmod 2147483647).tdiv 31)) + (w64 (x1)))), (w64 (s_.at_ + 1)))))) (M.ret ((w64 (((w64 ((w64 (s_.seed * 48271)) + 59)).tmod 2147483647).tdiv 31)), s_.at_))) (fun (s1 : Int × Int) => M.bind (M.guard (n_ != 0)) (fun _ => M.ret ((s1.1.tmod n_), (⟨s_.code, s1.2, ((w64 ((w64 (s_.seed * 48271)) + 59)).tmod 2147483647)⟩ : TL01source)))))

def spec_l01Pick (s_ : TL01source) (list : List Int) : M (Int × TL01source × (List Int)) :=
  M.bind (spec_l01Next s_ (list.length : Int)) (fun x1 => M.bind (M.idx list x1.1) (fun x2 => M.ret (x2, (⟨s_.code, x1.2.at_, x1.2.seed⟩ : TL01source), list)))

def laws_likeInts (a_ : List Int) (b : List Int) : M Bool :=
  M.ite ((a_.length : Int) != (b.length : Int)) (M.ret false) (M.bind (M.forI 0 (a_.length : Int) (fun s => .inl s) (fun i1 => (fun (_ : Unit) => M.bind (M.idx a_ i1) (fun x2 => M.bind (M.idx b i1) (fun x3 => M.ite (x2 != x3) (M.ret (.inr (.inr false))) (M.ret (.inl ())))))) ()) (fun x1 => M.cont x1 (fun _ => M.ret true) (fun r => M.ret r)))

def spec_l11Own (g : TGraph) : M TGraph :=
  M.bind (M.app ([] : List TPlace) g.Places) (fun l1 => M.ret (⟨g.Events, l1⟩ : TGraph))

def slices_Clone_Place (s_ : List TPlace) : M ((List TPlace)) :=
  M.bind (M.app ([] : List TPlace) s_) (fun l1 => M.ret l1)

def impl_cloneGraph (g : TGraph) : M TGraph :=
  M.bind (slices_Clone_Place g.Places) (fun x1 => M.ret (⟨g.Events, x1⟩ : TGraph))

def spec_l11Index (g : TGraph) (i : Int) : M Int :=
  M.bind (spec_IsEventGraph g) (fun x1 => M.ite (!x1) (M.ret 1) (M.bind (spec_l01In i 0 (w64 ((g.Places.length : Int) - 1))) (fun x2 => M.ite (!x2) (M.ret 2) (M.ret 0))))

def spec_ChangePlace (g : TGraph) (i : Int) (delay : Int) (tokens : Int) : M (TGraph × Int) :=
  M.bind (spec_l11Index g i) (fun x1 => M.bind (M.ite (x1 == 0) (M.bind (spec_l01In delay 0 1000) (fun x3 => M.bind (M.ite (!x3) (M.ret true) (M.bind (spec_l01In tokens 0 5) (fun x5 => M.ret (!x5)))) (fun x4 => M.ret x4))) (M.ret false)) (fun x2 => M.bind (M.ite x2 (M.ret 2) (M.ret x1)) (fun (s1 : Int) => M.ite (s1 != 0) (M.ret ((⟨0, []⟩ : TGraph), s1)) (M.bind (spec_l11Own g) (fun x6 => M.bind (M.idx x6.Places i) (fun x7 => M.bind (M.upd x6.Places i (⟨x7.From, x7.To, delay, x7.Tokens⟩ : TPlace)) (fun l1 => M.bind (M.idx l1 i) (fun x8 => M.bind (M.upd l1 i (⟨x8.From, x8.To, x8.Delay, tokens⟩ : TPlace)) (fun l2 => M.ret ((⟨x6.Events, l2⟩ : TGraph), 0))))))))))

def impl_ChangePlace (g : TGraph) (i : Int) (delay : Int) (tokens : Int) : M (TGraph × Int) :=
  M.bind (impl_IsEventGraph g) (fun x1 => M.ite (!x1) (M.ret ((⟨0, []⟩ : TGraph), 1)) (M.bind (impl_within i 0 (w64 ((g.Places.length : Int) - 1))) (fun x2 => M.bind (M.ite (!x2) (M.ret true) (M.bind (impl_within delay 0 1000) (fun x4 => M.ret (!x4)))) (fun x3 => M.bind (M.ite x3 (M.ret true) (M.bind (impl_within tokens 0 5) (fun x6 => M.ret (!x6)))) (fun x5 => M.ite x5 (M.ret ((⟨0, []⟩ : TGraph), 2)) (M.bind (impl_cloneGraph g) (fun x7 => M.bind (M.idx x7.Places i) (fun x8 => M.bind (M.upd x7.Places i (⟨x8.From, x8.To, delay, x8.Tokens⟩ : TPlace)) (fun l1 => M.bind (M.idx l1 i) (fun x9 => M.bind (M.upd l1 i (⟨x9.From, x9.To, x9.Delay, tokens⟩ : TPlace)) (fun l2 => M.ret ((⟨x7.Events, l2⟩ : TGraph), 0))))))))))))

def spec_l11Event (g : TGraph) (event : Int) : M Int :=
  M.bind (spec_IsEventGraph g) (fun x1 => M.ite (!x1) (M.ret 1) (M.bind (spec_l01In event 0 (w64 (g.Events - 1))) (fun x2 => M.ite (!x2) (M.ret 2) (M.ret 0))))

def spec_PlacesFrom (g : TGraph) (event : Int) : M ((List Int) × Int) :=
  M.bind (spec_l11Event g event) (fun x1 => M.ite (x1 != 0) (M.ret (([] : List Int), x1)) (M.bind (spec_l11Places g event false) (fun x2 => M.ret (x2, 0))))

def impl_checkEvent (g : TGraph) (event : Int) : M Int :=
  M.bind (impl_IsEventGraph g) (fun x1 => M.ite (!x1) (M.ret 1) (M.bind (impl_isEvent g event) (fun x2 => M.ite (!x2) (M.ret 2) (M.ret 0))))

def impl_PlacesFrom_1 (p : TPlace) (z0 : Int) : M Bool :=
  M.ret (p.From == z0)

def impl_placesWith_F_impl_PlacesFrom_1 (g : TGraph) (has0 : Int) : M ((List Int)) :=
  M.bind (M.forI 0 (g.Places.length : Int) (fun s => s) (fun i1 => (fun (s1 : (List Int)) => M.bind (M.idx g.Places i1) (fun x2 => M.bind (impl_PlacesFrom_1 x2 has0) (fun x3 => M.bind (M.ite x3 (M.bind (M.app s1 ([i1] : List Int)) (fun l1 => M.ret l1)) (M.ret s1)) (fun (s2 : (List Int)) => M.ret (.inl s2)))))) []) (fun x1 => M.ret x1)

def impl_PlacesFrom (g : TGraph) (event : Int) : M ((List Int) × Int) :=
  M.bind (impl_checkEvent g event) (fun x1 => M.ite (x1 != 0) (M.ret (([] : List Int), x1)) (M.bind (impl_placesWith_F_impl_PlacesFrom_1 g event) (fun x2 => M.ret (x2, 0))))

def spec_PlacesInto (g : TGraph) (event : Int) : M ((List Int) × Int) :=
  M.bind (spec_l11Event g event) (fun x1 => M.ite (x1 != 0) (M.ret (([] : List Int), x1)) (M.bind (spec_l11Places g event true) (fun x2 => M.ret (x2, 0))))

def impl_PlacesInto_1 (p : TPlace) (z0 : Int) : M Bool :=
  M.ret (p.To == z0)

def impl_placesWith_F_impl_PlacesInto_1 (g : TGraph) (has0 : Int) : M ((List Int)) :=
  M.bind (M.forI 0 (g.Places.length : Int) (fun s => s) (fun i1 => (fun (s1 : (List Int)) => M.bind (M.idx g.Places i1) (fun x2 => M.bind (impl_PlacesInto_1 x2 has0) (fun x3 => M.bind (M.ite x3 (M.bind (M.app s1 ([i1] : List Int)) (fun l1 => M.ret l1)) (M.ret s1)) (fun (s2 : (List Int)) => M.ret (.inl s2)))))) []) (fun x1 => M.ret x1)

def impl_PlacesInto (g : TGraph) (event : Int) : M ((List Int) × Int) :=
  M.bind (impl_checkEvent g event) (fun x1 => M.ite (x1 != 0) (M.ret (([] : List Int), x1)) (M.bind (impl_placesWith_F_impl_PlacesInto_1 g event) (fun x2 => M.ret (x2, 0))))

def spec_l11Draw (s_ : TL01source) : M (TGraph × TL01source) :=
  M.bind (spec_l01Next s_ 5) (fun x1 => M.bind (spec_l01Next (⟨s_.code, x1.2.at_, x1.2.seed⟩ : TL01source) 9) (fun x2 => M.bind (M.loop (fun (s1 : Int × Int × (List TPlace) × Int) => M.ite (decide (0 < s1.2.2.2)) (M.bind (M.bind (spec_l01Next (⟨s_.code, s1.1, s1.2.1⟩ : TL01source) (w64 (1 + x1.1))) (fun x4 => M.bind (spec_l01Next (⟨s_.code, x4.2.at_, x4.2.seed⟩ : TL01source) (w64 (1 + x1.1))) (fun x5 => M.bind (spec_l01Next (⟨s_.code, x5.2.at_, x5.2.seed⟩ : TL01source) 12) (fun x6 => M.ret (x6.2.at_, x6.2.seed, (⟨x4.1, x5.1, x6.1, 0⟩ : TPlace)))))) (fun (s2 : Int × Int × TPlace) => M.bind (M.ite (decide (s2.2.2.To ≤ s2.2.2.From)) (M.ret (s2.1, s2.2.1, true)) (M.bind (spec_l01Next (⟨s_.code, s2.1, s2.2.1⟩ : TL01source) 4) (fun x13 => M.ret (x13.2.at_, x13.2.seed, (x13.1 == 0))))) (fun (s3 : Int × Int × Bool) => M.bind (M.ite s3.2.2 (M.bind (spec_l01Next (⟨s_.code, s3.1, s3.2.1⟩ : TL01source) 2) (fun x14 => M.bind (spec_l01Next (⟨s_.code, x14.2.at_, x14.2.seed⟩ : TL01source) 3) (fun x15 => M.ret (x15.2.at_, x15.2.seed, (⟨s2.2.2.From, s2.2.2.To, s2.2.2.Delay, (w64 (1 + (w64 (x14.1 * x15.1))))⟩ : TPlace))))) (M.ret (s3.1, s3.2.1, s2.2.2))) (fun (s4 : Int × Int × TPlace) => M.bind (spec_l01Next (⟨s_.code, s4.1, s4.2.1⟩ : TL01source) 30) (fun x16 => M.bind (M.ite (x16.1 == 0) (M.ret (⟨s4.2.2.From, s4.2.2.To, s4.2.2.Delay, 0⟩ : TPlace)) (M.ret s4.2.2)) (fun (s5 : TPlace) => M.bind (M.app s1.2.2.1 ([s5] : List TPlace)) (fun l1 => M.ret (.inl (x16.2.at_, x16.2.seed, l1, (w64 (s1.2.2.2 - 1))))))))))) (M.ret (.inr (s1.1, s1.2.1, s1.2.2.1, s1.2.2.2)))) (x2.2.at_, x2.2.seed, ([] : List TPlace), x2.1)) (fun x3 => M.bind (spec_l01Next (⟨s_.code, x3.1, x3.2.1⟩ : TL01source) 60) (fun x17 => M.bind (M.ite (x17.1 == 0) (M.bind (spec_l01Pick (⟨s_.code, x17.2.at_, x17.2.seed⟩ : TL01source) ([0, 10, 11] : List Int)) (fun x18 => M.ret (x18.1, x3.2.2.1, x18.2.1.at_, x18.2.1.seed))) (M.ite (x17.1 == 1) (M.bind (M.bind (spec_l01Pick (⟨s_.code, x17.2.at_, x17.2.seed⟩ : TL01source) ([(-1), 0, (w64 (1 + x1.1))] : List Int)) (fun x19 => M.bind (spec_l01Pick (⟨s_.code, x19.2.1.at_, x19.2.1.seed⟩ : TL01source) ([(-1), 1000, 1001] : List Int)) (fun x20 => M.bind (M.app x3.2.2.1 ([⟨x19.1, 0, x20.1, 1⟩] : List TPlace)) (fun l2 => M.ret (l2, x20.2.1.at_, x20.2.1.seed))))) (fun (s7 : (List TPlace) × Int × Int) => M.ret ((w64 (1 + x1.1)), s7.1, s7.2.1, s7.2.2))) (M.ite (x17.1 == 2) (M.bind (spec_l01Pick (⟨s_.code, x17.2.at_, x17.2.seed⟩ : TL01source) ([5, 6, (-1)] : List Int)) (fun x25 => M.bind (M.app x3.2.2.1 ([⟨0, 0, 0, x25.1⟩] : List TPlace)) (fun l5 => M.ret ((w64 (1 + x1.1)), l5, x25.2.1.at_, x25.2.1.seed)))) (M.ite (x17.1 == 3) (M.bind (M.loop (fun (s8 : Int × Int × (List TPlace) × Int) => M.bind (spec_l01Next (⟨s_.code, s8.1, s8.2.1⟩ : TL01source) 9) (fun x27 => M.ite (decide (s8.2.2.2 < (w64 (22 + x27.1)))) (M.bind (M.app s8.2.2.1 ([⟨0, 0, s8.2.2.2, 1⟩] : List TPlace)) (fun l6 => M.ret (.inl (x27.2.at_, x27.2.seed, l6, (w64 (s8.2.2.2 + 1)))))) (M.ret (.inr (x27.2.at_, x27.2.seed, s8.2.2.1, s8.2.2.2))))) (x17.2.at_, x17.2.seed, x3.2.2.1, 0)) (fun x26 => M.ret ((w64 (1 + x1.1)), x26.2.2.1, x26.1, x26.2.1))) (M.ret ((w64 (1 + x1.1)), x3.2.2.1, x17.2.at_, x17.2.seed)))))) (fun (s6 : Int × (List TPlace) × Int × Int) => M.ret ((⟨s6.1, s6.2.1⟩ : TGraph), (⟨s_.code, s6.2.2.1, s6.2.2.2⟩ : TL01source)))))))

def spec_l11DrawEvent (s_ : TL01source) : M (TGraph × Int × TL01source) :=
  M.bind (spec_l11Draw s_) (fun x1 => M.bind (spec_l01Next (⟨s_.code, x1.2.at_, x1.2.seed⟩ : TL01source) 20) (fun x2 => M.ite (x2.1 == 0) (M.bind (spec_l01Pick (⟨s_.code, x2.2.at_, x2.2.seed⟩ : TL01source) ([(-1), x1.1.Events] : List Int)) (fun x3 => M.ret (x1.1, x3.1, (⟨s_.code, x3.2.1.at_, x3.2.1.seed⟩ : TL01source)))) (M.bind (spec_l01Next (⟨s_.code, x2.2.at_, x2.2.seed⟩ : TL01source) x1.1.Events) (fun x4 => M.ret (x1.1, x4.1, (⟨s_.code, x4.2.at_, x4.2.seed⟩ : TL01source))))))

def spec_DrawPlacesInto (code : List Int) : M (TGraph × Int) :=
  M.bind (spec_l01From code) (fun x1 => M.bind (spec_l11DrawEvent x1) (fun x2 => M.ret (x2.1, x2.2.1)))

def spec_l11DrawIndex (s_ : TL01source) : M (TGraph × Int × TL01source) :=
  M.bind (spec_l11Draw s_) (fun x1 => M.bind (spec_l01Next (⟨s_.code, x1.2.at_, x1.2.seed⟩ : TL01source) 20) (fun x2 => M.ite (x2.1 == 0) (M.bind (spec_l01Pick (⟨s_.code, x2.2.at_, x2.2.seed⟩ : TL01source) ([(-1), (x1.1.Places.length : Int)] : List Int)) (fun x3 => M.ret (x1.1, x3.1, (⟨s_.code, x3.2.1.at_, x3.2.1.seed⟩ : TL01source)))) (M.bind (spec_l01Next (⟨s_.code, x2.2.at_, x2.2.seed⟩ : TL01source) (x1.1.Places.length : Int)) (fun x4 => M.ret (x1.1, x4.1, (⟨s_.code, x4.2.at_, x4.2.seed⟩ : TL01source))))))

def spec_DrawChangePlace (code : List Int) : M (TGraph × Int × Int × Int) :=
  M.bind (spec_l01From code) (fun x1 => M.bind (spec_l11DrawIndex x1) (fun x2 => M.bind (spec_l01Next (⟨x1.code, x2.2.2.at_, x2.2.2.seed⟩ : TL01source) 12) (fun x3 => M.ite (x3.1 == 0) (M.bind (M.bind (spec_l01Pick (⟨x1.code, x3.2.at_, x3.2.seed⟩ : TL01source) ([(-1), 0, 1000, 1001] : List Int)) (fun x4 => M.bind (spec_l01Pick (⟨x1.code, x4.2.1.at_, x4.2.1.seed⟩ : TL01source) ([(-1), 0, 5, 6] : List Int)) (fun x5 => M.ret (x4.1, x5.1)))) (fun (s1 : Int × Int) => M.ret (x2.1, x2.2.1, s1.1, s1.2))) (M.bind (spec_l01Next (⟨x1.code, x3.2.at_, x3.2.seed⟩ : TL01source) 20) (fun x10 => M.bind (spec_l01Next (⟨x1.code, x10.2.at_, x10.2.seed⟩ : TL01source) 4) (fun x11 => M.ret (x2.1, x2.2.1, x10.1, x11.1)))))))

def spec_DrawDropPlace (code : List Int) : M (TGraph × Int) :=
  M.bind (spec_l01From code) (fun x1 => M.bind (spec_l11DrawIndex x1) (fun x2 => M.ret (x2.1, x2.2.1)))

def slices_Delete_Place (s_ : List TPlace) (i : Int) (j : Int) : M ((List TPlace)) :=
  M.bind (M.sub s_ i j) (fun x1 => M.ite (i == j) (M.ret s_) (M.bind (M.sub s_ 0 i) (fun x2 => M.bind (M.sub s_ j (s_.length : Int)) (fun x3 => M.bind (M.app x2 x3) (fun l1 => M.ret l1)))))

def impl_DropPlace (g : TGraph) (i : Int) : M (TGraph × Int) :=
  M.bind (impl_IsEventGraph g) (fun x1 => M.ite (!x1) (M.ret ((⟨0, []⟩ : TGraph), 1)) (M.bind (impl_within i 0 (w64 ((g.Places.length : Int) - 1))) (fun x2 => M.ite (!x2) (M.ret ((⟨0, []⟩ : TGraph), 2)) (M.bind (impl_cloneGraph g) (fun x3 => M.bind (slices_Delete_Place x3.Places i (w64 (i + 1))) (fun x4 => M.ret ((⟨x3.Events, x4⟩ : TGraph), 0)))))))

def spec_DropPlace (g : TGraph) (i : Int) : M (TGraph × Int) :=
  M.bind (spec_l11Index g i) (fun x1 => M.ite (x1 != 0) (M.ret ((⟨0, []⟩ : TGraph), x1)) (M.bind (M.sub g.Places 0 i) (fun x2 => M.bind (M.sub g.Places (w64 (i + 1)) (g.Places.length : Int)) (fun x3 => M.bind (M.app ([] : List TPlace) x2) (fun l1 => M.bind (M.app l1 x3) (fun l2 => M.ret ((⟨g.Events, l2⟩ : TGraph), 0)))))))

def laws_likeGraphs9 (a_ : TGraph) (b : TGraph) : M Bool :=
  M.ite ((a_.Events != b.Events) || ((a_.Places.length : Int) != (b.Places.length : Int))) (M.ret false) (M.bind (M.loop (fun (s1 : Int) => M.ite (decide (s1 < (a_.Places.length : Int))) (M.bind (M.idx a_.Places s1) (fun x3 => M.bind (M.idx b.Places s1) (fun x4 => M.ite (!((x3.From == x4.From) && (x3.To == x4.To) && (x3.Delay == x4.Delay) && (x3.Tokens == x4.Tokens))) (M.ret (.inr (.inr false))) (M.ret (.inl (w64 (s1 + 1))))))) (M.ret (.inr (.inl s1)))) 0) (fun x2 => M.cont x2 (fun _ => M.ret true) (fun r => M.ret r)))

def laws_FnPlaces (code : List Int) : M Bool :=
  M.bind (laws_big code) (fun x1 => M.ite x1 (M.ret true) (M.bind (spec_DrawPlacesInto code) (fun x2 => M.bind (impl_PlacesInto x2.1 x2.2) (fun x3 => M.bind (spec_PlacesInto x2.1 x2.2) (fun x4 => M.bind (impl_PlacesFrom x2.1 x2.2) (fun x5 => M.bind (spec_PlacesFrom x2.1 x2.2) (fun x6 => M.bind (spec_DrawChangePlace code) (fun x7 => M.bind (impl_ChangePlace x7.1 x7.2.1 x7.2.2.1 x7.2.2.2) (fun x8 => M.bind (spec_ChangePlace x7.1 x7.2.1 x7.2.2.1 x7.2.2.2) (fun x9 => M.bind (spec_DrawDropPlace code) (fun x10 => M.bind (impl_DropPlace x10.1 x10.2) (fun x11 => M.bind (spec_DropPlace x10.1 x10.2) (fun x12 => M.bind (M.ite (x3.2 != x4.2) (M.ret true) (M.bind (laws_likeInts x3.1 x4.1) (fun x14 => M.ret (!x14)))) (fun x13 => M.bind (M.ite (x13 || (x5.2 != x6.2)) (M.ret true) (M.bind (laws_likeInts x5.1 x6.1) (fun x17 => M.ret (!x17)))) (fun x16 => M.bind (M.ite (x16 || (x8.2 != x9.2)) (M.ret true) (M.bind (laws_likeGraphs9 x8.1 x9.1) (fun x20 => M.ret (!x20)))) (fun x19 => M.bind (M.ite (x19 || (x11.2 != x12.2)) (M.ret true) (M.bind (laws_likeGraphs9 x11.1 x12.1) (fun x23 => M.ret (!x23)))) (fun x22 => M.ite x22 (M.ret false) (M.ite (x8.2 == 0) (M.bind (M.bind (M.idx x7.1.Places x7.2.1) (fun x26 => M.bind (M.idx x7.1.Places x7.2.1) (fun x27 => M.bind (impl_ChangePlace x8.1 x7.2.1 x26.Delay x27.Tokens) (fun x28 => M.ret (x28.1.Events, x28.1.Places, x28.2))))) (fun (s1 : Int × (List TPlace) × Int) => M.bind (M.ite (s1.2.2 != 0) (M.ret true) (M.bind (laws_likeGraphs9 (⟨s1.1, s1.2.1⟩ : TGraph) x7.1) (fun x31 => M.ret (!x31)))) (fun x30 => M.ite x30 (M.ret false) (M.ite (x3.2 != 0) (M.ret true) (M.bind (M.loop (fun (s2 : Int × Int) => M.ite (decide (s2.2 < x2.1.Events)) (M.bind (impl_PlacesInto x2.1 s2.2) (fun x33 => M.bind (impl_PlacesFrom x2.1 s2.2) (fun x34 => M.ite ((x33.2 != 0) || (x34.2 != 0)) (M.ret (.inr (.inr false))) (M.ret (.inl ((w64 ((w64 (s2.1 + (x33.1.length : Int))) + (x34.1.length : Int))), (w64 (s2.2 + 1)))))))) (M.ret (.inr (.inl (s2.1, s2.2))))) (0, 0)) (fun x32 => M.cont x32 (fun s3 => M.ret (s3.1 == (w64 (2 * (x2.1.Places.length : Int))))) (fun r => M.ret r))))))) (M.ite (x3.2 != 0) (M.ret true) (M.bind (M.loop (fun (s4 : Int × Int) => M.ite (decide (s4.2 < x2.1.Events)) (M.bind (impl_PlacesInto x2.1 s4.2) (fun x37 => M.bind (impl_PlacesFrom x2.1 s4.2) (fun x38 => M.ite ((x37.2 != 0) || (x38.2 != 0)) (M.ret (.inr (.inr false))) (M.ret (.inl ((w64 ((w64 (s4.1 + (x37.1.length : Int))) + (x38.1.length : Int))), (w64 (s4.2 + 1)))))))) (M.ret (.inr (.inl (s4.1, s4.2))))) (0, 0)) (fun x36 => M.cont x36 (fun s5 => M.ret (s5.1 == (w64 (2 * (x2.1.Places.length : Int))))) (fun r => M.ret r))))))))))))))))))))))

end Go.Proofs.Ytipdgiljgbjjkaa
