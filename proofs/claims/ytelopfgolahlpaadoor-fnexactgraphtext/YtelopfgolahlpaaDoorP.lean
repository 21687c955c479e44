/-
  Plain programs: what each Go function that the law reaches computes, on lists and integers.
  Conditions: None beyond the given statement.
-/
import Derived.Test.YtelopfgolahlpaaDoorM
namespace Go.Proofs.YtelopfgolahlpaaDoor
open Go
structure TPlace where
  From : Int
  To : Int
  Delay : Int
  Tokens : Int
structure TGraph where
  Events : Int
  Places : List TPlace
structure TL01source where
  code : List Int
  at_ : Int
  seed : Int
structure TBoundserror where
  x : Int
  y : Int
  signed : Bool
  code : Int
structure TErroraddressstring where
  msg : ByteArray
  addr : Int
structure TRatio where
  Num : Int
  Den : Int
def spec_l01In (n_ : Int) (low : Int) (high : Int) : M Bool :=
  M.ret ((decide (low ≤ n_)) && (decide (n_ ≤ high)))

def impl_within (n_ : Int) (low : Int) (high : Int) : M Bool :=
  M.ret ((decide (low ≤ n_)) && (decide (n_ ≤ high)))

def laws_szPlaceS (a_ : List TPlace) (left : Int) : M Int :=
  M.ite (decide ((w64 (left - (a_.length : Int))) < 0)) (M.ret (-1)) (M.ret (w64 (left - (a_.length : Int))))

def laws_szEventGraph (a_ : TGraph) (left : Int) : M Int :=
  M.bind (laws_szPlaceS a_.Places left) (fun x1 => M.ite (decide (x1 < 0)) (M.ret (-1)) (M.ret x1))

def laws_toPlace (a_ : TPlace) : M TPlace :=
  M.ret (⟨a_.From, a_.To, a_.Delay, a_.Tokens⟩ : TPlace)

def laws_toPlaceS (a_ : List TPlace) : M ((List TPlace)) :=
  M.bind (M.make (a_.length : Int) (⟨0, 0, 0, 0⟩ : TPlace)) (fun l1 => M.bind (M.forI 0 (a_.length : Int) (fun s => s) (fun i1 => (fun (s1 : (List TPlace)) => M.bind (M.idx a_ i1) (fun x2 => M.bind (laws_toPlace x2) (fun x3 => M.bind (M.idx s1 i1) (fun x4 => M.bind (M.upd s1 i1 (x3 : TPlace)) (fun l2 => M.ret (.inl l2))))))) l1) (fun x1 => M.ret x1))

def laws_toEventGraph (a_ : TGraph) : M TGraph :=
  M.bind (laws_toPlaceS a_.Places) (fun x1 => M.ret (⟨a_.Events, x1⟩ : TGraph))

def spec_l11Place (p : TPlace) (events : Int) : M Bool :=
  M.bind (spec_l01In p.From 0 (w64 (events - 1))) (fun x1 => M.bind (M.ite x1 (M.bind (spec_l01In p.To 0 (w64 (events - 1))) (fun x3 => M.ret x3)) (M.ret false)) (fun x2 => M.bind (M.ite x2 (M.bind (spec_l01In p.Delay 0 1000) (fun x5 => M.ret x5)) (M.ret false)) (fun x4 => M.bind (M.ite x4 (M.bind (spec_l01In p.Tokens 0 5) (fun x7 => M.ret x7)) (M.ret false)) (fun x6 => M.ret x6))))

def spec_IsEventGraph (g : TGraph) : M Bool :=
  M.bind (M.loop (fun (s1 : Int) => M.ite (decide (s1 < (g.Places.length : Int))) (M.bind (M.idx g.Places s1) (fun x2 => M.bind (spec_l11Place x2 g.Events) (fun x3 => M.ite (!x3) (M.ret (.inr (.inr false))) (M.ret (.inl (w64 (s1 + 1))))))) (M.ret (.inr (.inl s1)))) 0) (fun x1 => M.cont x1 (fun _ => M.bind (spec_l01In g.Events 1 10) (fun x4 => M.ret (x4 && (decide ((g.Places.length : Int) ≤ 30))))) (fun r => M.ret r))

def impl_isEvent (g : TGraph) (event : Int) : M Bool :=
  M.bind (impl_within event 0 (w64 (g.Events - 1))) (fun x1 => M.ret x1)

def impl_isPlace (g : TGraph) (p : TPlace) : M Bool :=
  M.bind (impl_isEvent g p.From) (fun x1 => M.bind (M.ite x1 (M.bind (impl_isEvent g p.To) (fun x3 => M.ret x3)) (M.ret false)) (fun x2 => M.bind (M.ite x2 (M.bind (impl_within p.Delay 0 1000) (fun x5 => M.ret x5)) (M.ret false)) (fun x4 => M.bind (M.ite x4 (M.bind (impl_within p.Tokens 0 5) (fun x7 => M.ret x7)) (M.ret false)) (fun x6 => M.ret x6))))

def impl_IsEventGraph_1 (p : TPlace) (z0 : TGraph) : M Bool :=
  M.bind (impl_isPlace z0 p) (fun x1 => M.ret (!x1))

def slices_IndexFunc_Place_F_impl_IsEventGraph_1 (s_ : List TPlace) (f0 : TGraph) : M Int :=
  M.bind (M.forI 0 (s_.length : Int) (fun s => .inl s) (fun i1 => (fun (_ : Unit) => M.bind (M.idx s_ i1) (fun x2 => M.bind (impl_IsEventGraph_1 x2 f0) (fun x3 => M.ite x3 (M.ret (.inr (.inr i1))) (M.ret (.inl ())))))) ()) (fun x1 => M.cont x1 (fun _ => M.ret (-1)) (fun r => M.ret r))

def slices_ContainsFunc_Place_F_impl_IsEventGraph_1 (s_ : List TPlace) (f0 : TGraph) : M Bool :=
  M.bind (slices_IndexFunc_Place_F_impl_IsEventGraph_1 s_ f0) (fun x1 => M.ret (decide (0 ≤ x1)))

def impl_IsEventGraph (g : TGraph) : M Bool :=
  M.bind (impl_within g.Events 1 10) (fun x1 => M.bind (M.ite (x1 && (decide ((g.Places.length : Int) ≤ 30))) (M.bind (slices_ContainsFunc_Place_F_impl_IsEventGraph_1 g.Places g) (fun x4 => M.ret (!x4))) (M.ret false)) (fun x3 => M.ret x3))

def laws_eqPlace (a_ : TPlace) (b : TPlace) : M Bool :=
  M.ite (a_.From != b.From) (M.ret false) (M.ite (a_.To != b.To) (M.ret false) (M.ite (a_.Delay != b.Delay) (M.ret false) (M.ite (a_.Tokens != b.Tokens) (M.ret false) (M.ret true))))

def laws_eqPlaceS (a_ : List TPlace) (b : List TPlace) : M Bool :=
  M.ite ((a_.length : Int) != (b.length : Int)) (M.ret false) (M.bind (M.forI 0 (a_.length : Int) (fun s => .inl s) (fun i1 => (fun (_ : Unit) => M.bind (M.idx a_ i1) (fun x2 => M.bind (M.idx b i1) (fun x3 => M.bind (laws_eqPlace x2 x3) (fun x4 => M.ite (!x4) (M.ret (.inr (.inr false))) (M.ret (.inl ()))))))) ()) (fun x1 => M.cont x1 (fun _ => M.ret true) (fun r => M.ret r)))

def laws_eqEventGraph (a_ : TGraph) (b : TGraph) : M Bool :=
  M.ite (a_.Events != b.Events) (M.ret false) (M.bind (laws_eqPlaceS a_.Places b.Places) (fun x1 => M.ite (!x1) (M.ret false) (M.ret true)))

def spec_l01Dec_R : Nat → Int → M ByteArray
  | 0, _ => M.fail
  | kR + 1, n_ => M.ite (decide (n_ < 10)) (M.ret (toS ([(IntKind.u8.wrap (w64 (48 + n_)))] : List Int))) (M.bind (spec_l01Dec_R kR (w64 (n_.tdiv 10))) (fun x1 => M.bind (M.cat x1 (toS ([(IntKind.u8.wrap (w64 (48 + (n_.tmod 10))))] : List Int))) (fun x2 => M.ret x2)))

def spec_l01Dec (n_ : Int) : M ByteArray := fun n => spec_l01Dec_R n n_ n

def spec_GraphText (g : TGraph) : M ByteArray :=
  M.bind (spec_IsEventGraph g) (fun x1 => M.ite (!x1) (M.ret (⟨#[]⟩ : ByteArray)) (M.bind (spec_l01Dec g.Events) (fun x2 => M.bind (M.loop (fun (s1 : ByteArray × Int) => M.ite (decide (s1.2 < (g.Places.length : Int))) (M.bind (M.idx g.Places s1.2) (fun x4 => M.bind (M.cat s1.1 (⟨#[32]⟩ : ByteArray)) (fun x5 => M.bind (spec_l01Dec x4.From) (fun x6 => M.bind (M.cat x5 x6) (fun x7 => M.bind (M.cat x7 (⟨#[62]⟩ : ByteArray)) (fun x8 => M.bind (spec_l01Dec x4.To) (fun x9 => M.bind (M.cat x8 x9) (fun x10 => M.bind (M.cat x10 (⟨#[58]⟩ : ByteArray)) (fun x11 => M.bind (spec_l01Dec x4.Delay) (fun x12 => M.bind (M.cat x11 x12) (fun x13 => M.bind (M.cat x13 (⟨#[42]⟩ : ByteArray)) (fun x14 => M.bind (spec_l01Dec x4.Tokens) (fun x15 => M.bind (M.cat x14 x15) (fun x16 => M.ret (.inl (x16, (w64 (s1.2 + 1)))))))))))))))))) (M.ret (.inr (s1.1, s1.2)))) (x2, 0)) (fun x3 => M.ret x3.1))))

def internal_strconv_log10Pow2 (x_ : Int) : M Int :=
  M.bind (M.guard (decide (0 ≤ 18))) (fun _ => M.ret (ishr .i64 (w64 (x_ * 78913)) 18))

def internal_strconv_bool2_n (b : Bool) : M Int :=
  M.ite b (M.ret 1) (M.ret 0)

def internal_strconv_isPowerOfTwo (x_ : Int) : M Bool :=
  M.ret ((ibit .and .i64 x_ (w64 (x_ - 1))) == 0)

def strconv_FormatInt (i : Int) (base : Int) : M ByteArray :=
  M.bind (M.guard (decide (-9223372036854775808 ≤ i) && decide (i ≤ 9223372036854775807) && decide (base = 10))) (fun _ => M.ret (⟨(Lib.itoa i).toArray⟩ : ByteArray))

def impl_decimal (n_ : Int) : M ByteArray :=
  M.bind (strconv_FormatInt n_ 10) (fun x1 => M.ret x1)

def impl_placeText (p : TPlace) : M ByteArray :=
  M.bind (impl_decimal p.From) (fun x1 => M.bind (M.cat x1 (⟨#[62]⟩ : ByteArray)) (fun x2 => M.bind (impl_decimal p.To) (fun x3 => M.bind (M.cat x2 x3) (fun x4 => M.bind (M.cat x4 (⟨#[58]⟩ : ByteArray)) (fun x5 => M.bind (impl_decimal p.Delay) (fun x6 => M.bind (M.cat x5 x6) (fun x7 => M.bind (M.cat x7 (⟨#[42]⟩ : ByteArray)) (fun x8 => M.bind (impl_decimal p.Tokens) (fun x9 => M.bind (M.cat x8 x9) (fun x10 => M.ret x10))))))))))

def impl_GraphText (g : TGraph) : M ByteArray :=
  M.bind (impl_IsEventGraph g) (fun x1 => M.ite (!x1) (M.ret (⟨#[]⟩ : ByteArray)) (M.bind (impl_decimal g.Events) (fun x2 => M.bind (M.forI 0 (g.Places.length : Int) (fun s => s) (fun i1 => (fun (s1 : ByteArray) => M.bind (M.idx g.Places i1) (fun x4 => M.bind (impl_placeText x4) (fun x5 => M.bind (M.cat (⟨#[32]⟩ : ByteArray) x5) (fun x6 => M.bind (M.cat s1 x6) (fun x7 => M.ret (.inl x7))))))) x2) (fun x3 => M.ret x3))))

def laws_FnExactGraphText (aG : TGraph) : M Bool :=
  M.bind (laws_szEventGraph aG 1048576) (fun x1 => M.ite (decide (x1 < 0)) (M.ret true) (M.bind (laws_toEventGraph aG) (fun x2 => M.bind (spec_GraphText x2) (fun x3 => M.bind (laws_toEventGraph aG) (fun x4 => M.bind (impl_GraphText x4) (fun x5 => M.ite (!(x5.toList == x3.toList)) (M.ret false) (M.bind (laws_toEventGraph aG) (fun x6 => M.bind (laws_eqEventGraph x4 x6) (fun x7 => M.ite (!x7) (M.ret false) (M.ret true))))))))))

end Go.Proofs.YtelopfgolahlpaaDoor
