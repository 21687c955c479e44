/-
  Plain programs: what each Go function that the law reaches computes, on lists and integers.
  Conditions: None beyond the given statement.
-/
import Derived.Test.YtfhphkiggdepaaaDoorM
namespace Go.Proofs.YtfhphkiggdepaaaDoor
open Go
structure TPlace where
  From : Int
  To : Int
  Delay : Int
  Tokens : Int
structure TGraph where
  Events : Int
  Places : List TPlace
structure TL01source where
  code : List Int
  at_ : Int
  seed : Int
structure TBoundserror where
  x : Int
  y : Int
  signed : Bool
  code : Int
structure TErroraddressstring where
  msg : ByteArray
  addr : Int
structure TRatio where
  Num : Int
  Den : Int
def spec_l01In (n_ : Int) (low : Int) (high : Int) : M Bool :=
  M.ret ((decide (low ≤ n_)) && (decide (n_ ≤ high)))

def impl_within (n_ : Int) (low : Int) (high : Int) : M Bool :=
  M.ret ((decide (low ≤ n_)) && (decide (n_ ≤ high)))

def spec_l11Place (p : TPlace) (events : Int) : M Bool :=
  M.bind (spec_l01In p.From 0 (w64 (events - 1))) (fun x1 => M.bind (M.ite x1 (M.bind (spec_l01In p.To 0 (w64 (events - 1))) (fun x3 => M.ret x3)) (M.ret false)) (fun x2 => M.bind (M.ite x2 (M.bind (spec_l01In p.Delay 0 1000) (fun x5 => M.ret x5)) (M.ret false)) (fun x4 => M.bind (M.ite x4 (M.bind (spec_l01In p.Tokens 0 5) (fun x7 => M.ret x7)) (M.ret false)) (fun x6 => M.ret x6))))

def spec_IsEventGraph (g : TGraph) : M Bool :=
  M.bind (M.loop (fun (s1 : Int) => M.ite (decide (s1 < (g.Places.length : Int))) (M.bind (M.idx g.Places s1) (fun x2 => M.bind (spec_l11Place x2 g.Events) (fun x3 => M.ite (!x3) (M.ret (.inr (.inr false))) (M.ret (.inl (w64 (s1 + 1))))))) (M.ret (.inr (.inl s1)))) 0) (fun x1 => M.cont x1 (fun _ => M.bind (spec_l01In g.Events 1 10) (fun x4 => M.ret (x4 && (decide ((g.Places.length : Int) ≤ 30))))) (fun r => M.ret r))

def impl_isEvent (g : TGraph) (event : Int) : M Bool :=
  M.bind (impl_within event 0 (w64 (g.Events - 1))) (fun x1 => M.ret x1)

def impl_isPlace (g : TGraph) (p : TPlace) : M Bool :=
  M.bind (impl_isEvent g p.From) (fun x1 => M.bind (M.ite x1 (M.bind (impl_isEvent g p.To) (fun x3 => M.ret x3)) (M.ret false)) (fun x2 => M.bind (M.ite x2 (M.bind (impl_within p.Delay 0 1000) (fun x5 => M.ret x5)) (M.ret false)) (fun x4 => M.bind (M.ite x4 (M.bind (impl_within p.Tokens 0 5) (fun x7 => M.ret x7)) (M.ret false)) (fun x6 => M.ret x6))))

def impl_IsEventGraph_1 (p : TPlace) (z0 : TGraph) : M Bool :=
  M.bind (impl_isPlace z0 p) (fun x1 => M.ret (!x1))

def slices_IndexFunc_Place_F_impl_IsEventGraph_1 (s_ : List TPlace) (f0 : TGraph) : M Int :=
  M.bind (M.forI 0 (s_.length : Int) (fun s => .inl s) (fun i1 => (fun (_ : Unit) => M.bind (M.idx s_ i1) (fun x2 => M.bind (impl_IsEventGraph_1 x2 f0) (fun x3 => M.ite x3 (M.ret (.inr (.inr i1))) (M.ret (.inl ())))))) ()) (fun x1 => M.cont x1 (fun _ => M.ret (-1)) (fun r => M.ret r))

def slices_ContainsFunc_Place_F_impl_IsEventGraph_1 (s_ : List TPlace) (f0 : TGraph) : M Bool :=
  M.bind (slices_IndexFunc_Place_F_impl_IsEventGraph_1 s_ f0) (fun x1 => M.ret (decide (0 ≤ x1)))

def impl_IsEventGraph (g : TGraph) : M Bool :=
  M.bind (impl_within g.Events 1 10) (fun x1 => M.bind (M.ite (x1 && (decide ((g.Places.length : Int) ≤ 30))) (M.bind (slices_ContainsFunc_Place_F_impl_IsEventGraph_1 g.Places g) (fun x4 => M.ret (!x4))) (M.ret false)) (fun x3 => M.ret x3))

def slices_Clone_Place (s_ : List TPlace) : M ((List TPlace)) :=
  M.bind (M.app ([] : List TPlace) s_) (fun l1 => M.ret l1)

def impl_cloneGraph (g : TGraph) : M TGraph :=
  M.bind (slices_Clone_Place g.Places) (fun x1 => M.ret (⟨g.Events, x1⟩ : TGraph))

def slices_Delete_Place (s_ : List TPlace) (i : Int) (j : Int) : M ((List TPlace)) :=
  M.bind (M.sub s_ i j) (fun x1 => M.ite (i == j) (M.ret s_) (M.bind (M.sub s_ 0 i) (fun x2 => M.bind (M.sub s_ j (s_.length : Int)) (fun x3 => M.bind (M.app x2 x3) (fun l1 => M.ret l1)))))

def impl_DropPlace (g : TGraph) (i : Int) : M (TGraph × Int) :=
  M.bind (impl_IsEventGraph g) (fun x1 => M.ite (!x1) (M.ret ((⟨0, []⟩ : TGraph), 1)) (M.bind (impl_within i 0 (w64 ((g.Places.length : Int) - 1))) (fun x2 => M.ite (!x2) (M.ret ((⟨0, []⟩ : TGraph), 2)) (M.bind (impl_cloneGraph g) (fun x3 => M.bind (slices_Delete_Place x3.Places i (w64 (i + 1))) (fun x4 => M.ret ((⟨x3.Events, x4⟩ : TGraph), 0)))))))

def laws_big (code : List Int) : M Bool :=
  M.ret (decide (4096 < (code.length : Int)))

def spec_l01From (code : List Int) : M TL01source :=
  M.bind (M.loop (fun (s1 : Int × Int) => M.ite ((decide (s1.2 < (code.length : Int))) && (decide (s1.2 < 64))) (M.bind (M.idx code s1.2) (fun x3 => M.ret (.inl (((w64 ((w64 (s1.1 * 67)) + (w64 (x3)))).tmod 2147483647), (w64 (s1.2 + 1)))))) (M.ret (.inr (s1.1, s1.2)))) (61403, 0)) (fun x1 => M.ret (⟨code, 0, x1.1⟩ : TL01source))

def spec_l01Next (s_ : TL01source) (n_ : Int) : M (Int × TL01source) :=
  M.ite (decide (n_ ≤ 1)) (M.ret (0, s_)) (M.bind (M.ite (decide (s_.at_ < (s_.code.length : Int))) (M.bind (M.idx s_.code s_.at_) (fun x1 => M.ite ((decide (n_ ≤ 256)) && (((w64 (s_.at_ + 1)).tmod 2) == 0)) (M.bind (M.idx s_.code (w64 ((w64 (s_.at_ + 1)) - 1))) (fun x3 => M.ret ((w64 (x3)), (w64 (s_.at_ + 1))))) (M.ret ((w64 ((w64 (((w64 ((w64 (s_.seed * 48271)) + 59)).tmod 2147483647).tdiv 31)) + (w64 (x1)))), (w64 (s_.at_ + 1)))))) (M.ret ((w64 (((w64 ((w64 (s_.seed * 48271)) + 59)).tmod 2147483647).tdiv 31)), s_.at_))) (fun (s1 : Int × Int) => M.bind (M.guard (n_ != 0)) (fun _ => M.ret ((s1.1.tmod n_), (⟨s_.code, s1.2, ((w64 ((w64 (s_.seed * 48271)) + 59)).tmod 2147483647)⟩ : TL01source)))))

def spec_l01Pick (s_ : TL01source) (list : List Int) : M (Int × TL01source × (List Int)) :=
  M.bind (spec_l01Next s_ (list.length : Int)) (fun x1 => M.bind (M.idx list x1.1) (fun x2 => M.ret (x2, (⟨s_.code, x1.2.at_, x1.2.seed⟩ : TL01source), list)))

def spec_l01Dec_R : Nat → Int → M ByteArray
  | 0, _ => M.fail
  | kR + 1, n_ => M.ite (decide (n_ < 10)) (M.ret (toS ([(IntKind.u8.wrap (w64 (48 + n_)))] : List Int))) (M.bind (spec_l01Dec_R kR (w64 (n_.tdiv 10))) (fun x1 => M.bind (M.cat x1 (toS ([(IntKind.u8.wrap (w64 (48 + (n_.tmod 10))))] : List Int))) (fun x2 => M.ret x2)))

def spec_l01Dec (n_ : Int) : M ByteArray := fun n => spec_l01Dec_R n n_ n

def spec_GraphText (g : TGraph) : M ByteArray :=
  M.bind (spec_IsEventGraph g) (fun x1 => M.ite (!x1) (M.ret (⟨#[]⟩ : ByteArray)) (M.bind (spec_l01Dec g.Events) (fun x2 => M.bind (M.loop (fun (s1 : ByteArray × Int) => M.ite (decide (s1.2 < (g.Places.length : Int))) (M.bind (M.idx g.Places s1.2) (fun x4 => M.bind (M.cat s1.1 (⟨#[32]⟩ : ByteArray)) (fun x5 => M.bind (spec_l01Dec x4.From) (fun x6 => M.bind (M.cat x5 x6) (fun x7 => M.bind (M.cat x7 (⟨#[62]⟩ : ByteArray)) (fun x8 => M.bind (spec_l01Dec x4.To) (fun x9 => M.bind (M.cat x8 x9) (fun x10 => M.bind (M.cat x10 (⟨#[58]⟩ : ByteArray)) (fun x11 => M.bind (spec_l01Dec x4.Delay) (fun x12 => M.bind (M.cat x11 x12) (fun x13 => M.bind (M.cat x13 (⟨#[42]⟩ : ByteArray)) (fun x14 => M.bind (spec_l01Dec x4.Tokens) (fun x15 => M.bind (M.cat x14 x15) (fun x16 => M.ret (.inl (x16, (w64 (s1.2 + 1)))))))))))))))))) (M.ret (.inr (s1.1, s1.2)))) (x2, 0)) (fun x3 => M.ret x3.1))))

def internal_strconv_log10Pow2 (x_ : Int) : M Int :=
  M.bind (M.guard (decide (0 ≤ 18))) (fun _ => M.ret (ishr .i64 (w64 (x_ * 78913)) 18))

def internal_strconv_bool2_n (b : Bool) : M Int :=
  M.ite b (M.ret 1) (M.ret 0)

def internal_strconv_isPowerOfTwo (x_ : Int) : M Bool :=
  M.ret ((ibit .and .i64 x_ (w64 (x_ - 1))) == 0)

def strconv_FormatInt (i : Int) (base : Int) : M ByteArray :=
  M.bind (M.guard (decide (-9223372036854775808 ≤ i) && decide (i ≤ 9223372036854775807) && decide (base = 10))) (fun _ => M.ret (⟨(Lib.itoa i).toArray⟩ : ByteArray))

def impl_decimal (n_ : Int) : M ByteArray :=
  M.bind (strconv_FormatInt n_ 10) (fun x1 => M.ret x1)

def impl_placeText (p : TPlace) : M ByteArray :=
  M.bind (impl_decimal p.From) (fun x1 => M.bind (M.cat x1 (⟨#[62]⟩ : ByteArray)) (fun x2 => M.bind (impl_decimal p.To) (fun x3 => M.bind (M.cat x2 x3) (fun x4 => M.bind (M.cat x4 (⟨#[58]⟩ : ByteArray)) (fun x5 => M.bind (impl_decimal p.Delay) (fun x6 => M.bind (M.cat x5 x6) (fun x7 => M.bind (M.cat x7 (⟨#[42]⟩ : ByteArray)) (fun x8 => M.bind (impl_decimal p.Tokens) (fun x9 => M.bind (M.cat x8 x9) (fun x10 => M.ret x10))))))))))

def impl_GraphText (g : TGraph) : M ByteArray :=
  M.bind (impl_IsEventGraph g) (fun x1 => M.ite (!x1) (M.ret (⟨#[]⟩ : ByteArray)) (M.bind (impl_decimal g.Events) (fun x2 => M.bind (M.forI 0 (g.Places.length : Int) (fun s => s) (fun i1 => (fun (s1 : ByteArray) => M.bind (M.idx g.Places i1) (fun x4 => M.bind (impl_placeText x4) (fun x5 => M.bind (M.cat (⟨#[32]⟩ : ByteArray) x5) (fun x6 => M.bind (M.cat s1 x6) (fun x7 => M.ret (.inl x7))))))) x2) (fun x3 => M.ret x3))))

def spec_l11Own (g : TGraph) : M TGraph :=
  M.bind (M.app ([] : List TPlace) g.Places) (fun l1 => M.ret (⟨g.Events, l1⟩ : TGraph))

def spec_l11Draw (s_ : TL01source) : M (TGraph × TL01source) :=
  M.bind (spec_l01Next s_ 5) (fun x1 => M.bind (spec_l01Next (⟨s_.code, x1.2.at_, x1.2.seed⟩ : TL01source) 9) (fun x2 => M.bind (M.loop (fun (s1 : Int × Int × (List TPlace) × Int) => M.ite (decide (0 < s1.2.2.2)) (M.bind (M.bind (spec_l01Next (⟨s_.code, s1.1, s1.2.1⟩ : TL01source) (w64 (1 + x1.1))) (fun x4 => M.bind (spec_l01Next (⟨s_.code, x4.2.at_, x4.2.seed⟩ : TL01source) (w64 (1 + x1.1))) (fun x5 => M.bind (spec_l01Next (⟨s_.code, x5.2.at_, x5.2.seed⟩ : TL01source) 12) (fun x6 => M.ret (x6.2.at_, x6.2.seed, (⟨x4.1, x5.1, x6.1, 0⟩ : TPlace)))))) (fun (s2 : Int × Int × TPlace) => M.bind (M.ite (decide (s2.2.2.To ≤ s2.2.2.From)) (M.ret (s2.1, s2.2.1, true)) (M.bind (spec_l01Next (⟨s_.code, s2.1, s2.2.1⟩ : TL01source) 4) (fun x13 => M.ret (x13.2.at_, x13.2.seed, (x13.1 == 0))))) (fun (s3 : Int × Int × Bool) => M.bind (M.ite s3.2.2 (M.bind (spec_l01Next (⟨s_.code, s3.1, s3.2.1⟩ : TL01source) 2) (fun x14 => M.bind (spec_l01Next (⟨s_.code, x14.2.at_, x14.2.seed⟩ : TL01source) 3) (fun x15 => M.ret (x15.2.at_, x15.2.seed, (⟨s2.2.2.From, s2.2.2.To, s2.2.2.Delay, (w64 (1 + (w64 (x14.1 * x15.1))))⟩ : TPlace))))) (M.ret (s3.1, s3.2.1, s2.2.2))) (fun (s4 : Int × Int × TPlace) => M.bind (spec_l01Next (⟨s_.code, s4.1, s4.2.1⟩ : TL01source) 30) (fun x16 => M.bind (M.ite (x16.1 == 0) (M.ret (⟨s4.2.2.From, s4.2.2.To, s4.2.2.Delay, 0⟩ : TPlace)) (M.ret s4.2.2)) (fun (s5 : TPlace) => M.bind (M.app s1.2.2.1 ([s5] : List TPlace)) (fun l1 => M.ret (.inl (x16.2.at_, x16.2.seed, l1, (w64 (s1.2.2.2 - 1))))))))))) (M.ret (.inr (s1.1, s1.2.1, s1.2.2.1, s1.2.2.2)))) (x2.2.at_, x2.2.seed, ([] : List TPlace), x2.1)) (fun x3 => M.bind (spec_l01Next (⟨s_.code, x3.1, x3.2.1⟩ : TL01source) 60) (fun x17 => M.bind (M.ite (x17.1 == 0) (M.bind (spec_l01Pick (⟨s_.code, x17.2.at_, x17.2.seed⟩ : TL01source) ([0, 10, 11] : List Int)) (fun x18 => M.ret (x18.1, x3.2.2.1, x18.2.1.at_, x18.2.1.seed))) (M.ite (x17.1 == 1) (M.bind (M.bind (spec_l01Pick (⟨s_.code, x17.2.at_, x17.2.seed⟩ : TL01source) ([(-1), 0, (w64 (1 + x1.1))] : List Int)) (fun x19 => M.bind (spec_l01Pick (⟨s_.code, x19.2.1.at_, x19.2.1.seed⟩ : TL01source) ([(-1), 1000, 1001] : List Int)) (fun x20 => M.bind (M.app x3.2.2.1 ([⟨x19.1, 0, x20.1, 1⟩] : List TPlace)) (fun l2 => M.ret (l2, x20.2.1.at_, x20.2.1.seed))))) (fun (s7 : (List TPlace) × Int × Int) => M.ret ((w64 (1 + x1.1)), s7.1, s7.2.1, s7.2.2))) (M.ite (x17.1 == 2) (M.bind (spec_l01Pick (⟨s_.code, x17.2.at_, x17.2.seed⟩ : TL01source) ([5, 6, (-1)] : List Int)) (fun x25 => M.bind (M.app x3.2.2.1 ([⟨0, 0, 0, x25.1⟩] : List TPlace)) (fun l5 => M.ret ((w64 (1 + x1.1)), l5, x25.2.1.at_, x25.2.1.seed)))) (M.ite (x17.1 == 3) (M.bind (M.loop (fun (s8 : Int × Int × (List TPlace) × Int) => M.bind (spec_l01Next (⟨s_.code, s8.1, s8.2.1⟩ : TL01source) 9) (fun x27 => M.ite (decide (s8.2.2.2 < (w64 (22 + x27.1)))) (M.bind (M.app s8.2.2.1 ([⟨0, 0, s8.2.2.2, 1⟩] : List TPlace)) (fun l6 => M.ret (.inl (x27.2.at_, x27.2.seed, l6, (w64 (s8.2.2.2 + 1)))))) (M.ret (.inr (x27.2.at_, x27.2.seed, s8.2.2.1, s8.2.2.2))))) (x17.2.at_, x17.2.seed, x3.2.2.1, 0)) (fun x26 => M.ret ((w64 (1 + x1.1)), x26.2.2.1, x26.1, x26.2.1))) (M.ret ((w64 (1 + x1.1)), x3.2.2.1, x17.2.at_, x17.2.seed)))))) (fun (s6 : Int × (List TPlace) × Int × Int) => M.ret ((⟨s6.1, s6.2.1⟩ : TGraph), (⟨s_.code, s6.2.2.1, s6.2.2.2⟩ : TL01source)))))))

def laws_likeGraphs9 (a_ : TGraph) (b : TGraph) : M Bool :=
  M.ite ((a_.Events != b.Events) || ((a_.Places.length : Int) != (b.Places.length : Int))) (M.ret false) (M.bind (M.loop (fun (s1 : Int) => M.ite (decide (s1 < (a_.Places.length : Int))) (M.bind (M.idx a_.Places s1) (fun x3 => M.bind (M.idx b.Places s1) (fun x4 => M.ite (!((x3.From == x4.From) && (x3.To == x4.To) && (x3.Delay == x4.Delay) && (x3.Tokens == x4.Tokens))) (M.ret (.inr (.inr false))) (M.ret (.inl (w64 (s1 + 1))))))) (M.ret (.inr (.inl s1)))) 0) (fun x2 => M.cont x2 (fun _ => M.ret true) (fun r => M.ret r)))

def spec_AddPlace (g : TGraph) (p : TPlace) : M (TGraph × Int) :=
  M.bind (spec_IsEventGraph g) (fun x1 => M.ite (!x1) (M.ret ((⟨0, []⟩ : TGraph), 1)) (M.bind (spec_l11Place p g.Events) (fun x2 => M.ite (!x2) (M.ret ((⟨0, []⟩ : TGraph), 2)) (M.ite ((g.Places.length : Int) == 30) (M.ret ((⟨0, []⟩ : TGraph), 3)) (M.bind (spec_l11Own g) (fun x3 => M.bind (M.app x3.Places ([p] : List TPlace)) (fun l1 => M.ret ((⟨x3.Events, l1⟩ : TGraph), 0))))))))

def impl_AddPlace (g : TGraph) (p : TPlace) : M (TGraph × Int) :=
  M.bind (impl_IsEventGraph g) (fun x1 => M.ite (!x1) (M.ret ((⟨0, []⟩ : TGraph), 1)) (M.bind (impl_isPlace g p) (fun x2 => M.ite (!x2) (M.ret ((⟨0, []⟩ : TGraph), 2)) (M.ite ((g.Places.length : Int) == 30) (M.ret ((⟨0, []⟩ : TGraph), 3)) (M.bind (impl_cloneGraph g) (fun x3 => M.bind (M.app x3.Places ([p] : List TPlace)) (fun l1 => M.ret ((⟨x3.Events, l1⟩ : TGraph), 0))))))))

def spec_DrawAddPlace (code : List Int) : M (TGraph × TPlace) :=
  M.bind (spec_l01From code) (fun x1 => M.bind (spec_l11Draw x1) (fun x2 => M.bind (spec_l01Next (⟨x1.code, x2.2.at_, x2.2.seed⟩ : TL01source) 10) (fun x3 => M.ite (x3.1 == 0) (M.bind (M.bind (spec_l01Pick (⟨x1.code, x3.2.at_, x3.2.seed⟩ : TL01source) ([0, x2.1.Events, (-1)] : List Int)) (fun x4 => M.bind (spec_l01Pick (⟨x1.code, x4.2.1.at_, x4.2.1.seed⟩ : TL01source) ([0, 1000, 1001] : List Int)) (fun x5 => M.bind (spec_l01Pick (⟨x1.code, x5.2.1.at_, x5.2.1.seed⟩ : TL01source) ([0, 6] : List Int)) (fun x6 => M.ret (⟨x4.1, 0, x5.1, x6.1⟩ : TPlace))))) (fun (s1 : TPlace) => M.ret (x2.1, s1))) (M.bind (spec_l01Next (⟨x1.code, x3.2.at_, x3.2.seed⟩ : TL01source) x2.1.Events) (fun x45 => M.bind (spec_l01Next (⟨x1.code, x45.2.at_, x45.2.seed⟩ : TL01source) x2.1.Events) (fun x46 => M.bind (spec_l01Next (⟨x1.code, x46.2.at_, x46.2.seed⟩ : TL01source) 20) (fun x47 => M.bind (spec_l01Next (⟨x1.code, x47.2.at_, x47.2.seed⟩ : TL01source) 4) (fun x48 => M.ret (x2.1, (⟨x45.1, x46.1, x47.1, x48.1⟩ : TPlace))))))))))

def internal_strconv_small (i : Int) : M ByteArray :=
  M.ite (decide (i < 10)) (M.bind (M.ssub (⟨#[48, 49, 50, 51, 52, 53, 54, 55, 56, 57, 97, 98, 99, 100, 101, 102, 103, 104, 105, 106, 107, 108, 109, 110, 111, 112, 113, 114, 115, 116, 117, 118, 119, 120, 121, 122]⟩ : ByteArray) i (w64 (i + 1))) (fun x1 => M.ret x1)) (M.bind (M.ssub (⟨#[48, 48, 48, 49, 48, 50, 48, 51, 48, 52, 48, 53, 48, 54, 48, 55, 48, 56, 48, 57, 49, 48, 49, 49, 49, 50, 49, 51, 49, 52, 49, 53, 49, 54, 49, 55, 49, 56, 49, 57, 50, 48, 50, 49, 50, 50, 50, 51, 50, 52, 50, 53, 50, 54, 50, 55, 50, 56, 50, 57, 51, 48, 51, 49, 51, 50, 51, 51, 51, 52, 51, 53, 51, 54, 51, 55, 51, 56, 51, 57, 52, 48, 52, 49, 52, 50, 52, 51, 52, 52, 52, 53, 52, 54, 52, 55, 52, 56, 52, 57, 53, 48, 53, 49, 53, 50, 53, 51, 53, 52, 53, 53, 53, 54, 53, 55, 53, 56, 53, 57, 54, 48, 54, 49, 54, 50, 54, 51, 54, 52, 54, 53, 54, 54, 54, 55, 54, 56, 54, 57, 55, 48, 55, 49, 55, 50, 55, 51, 55, 52, 55, 53, 55, 54, 55, 55, 55, 56, 55, 57, 56, 48, 56, 49, 56, 50, 56, 51, 56, 52, 56, 53, 56, 54, 56, 55, 56, 56, 56, 57, 57, 48, 57, 49, 57, 50, 57, 51, 57, 52, 57, 53, 57, 54, 57, 55, 57, 56, 57, 57]⟩ : ByteArray) (w64 (i * 2)) (w64 ((w64 (i * 2)) + 2))) (fun x2 => M.ret x2))

def math_bits_Len64 (x_ : Int) : M Int :=
  M.bind (M.ite (decide (4294967296 ≤ x_)) (M.bind (M.guard (decide (0 ≤ 32))) (fun _ => M.ret ((ishr .u64 x_ 32), 32))) (M.ret (x_, 0))) (fun (s1 : Int × Int) => M.bind (M.ite (decide (65536 ≤ s1.1)) (M.bind (M.guard (decide (0 ≤ 16))) (fun _ => M.ret ((ishr .u64 s1.1 16), (w64 (s1.2 + 16))))) (M.ret (s1.1, s1.2))) (fun (s2 : Int × Int) => M.bind (M.ite (decide (256 ≤ s2.1)) (M.bind (M.guard (decide (0 ≤ 8))) (fun _ => M.ret ((ishr .u64 s2.1 8), (w64 (s2.2 + 8))))) (M.ret (s2.1, s2.2))) (fun (s3 : Int × Int) => M.bind (M.sidx (⟨#[0, 1, 2, 2, 3, 3, 3, 3, 4, 4, 4, 4, 4, 4, 4, 4, 5, 5, 5, 5, 5, 5, 5, 5, 5, 5, 5, 5, 5, 5, 5, 5, 6, 6, 6, 6, 6, 6, 6, 6, 6, 6, 6, 6, 6, 6, 6, 6, 6, 6, 6, 6, 6, 6, 6, 6, 6, 6, 6, 6, 6, 6, 6, 6, 7, 7, 7, 7, 7, 7, 7, 7, 7, 7, 7, 7, 7, 7, 7, 7, 7, 7, 7, 7, 7, 7, 7, 7, 7, 7, 7, 7, 7, 7, 7, 7, 7, 7, 7, 7, 7, 7, 7, 7, 7, 7, 7, 7, 7, 7, 7, 7, 7, 7, 7, 7, 7, 7, 7, 7, 7, 7, 7, 7, 7, 7, 7, 7, 8, 8, 8, 8, 8, 8, 8, 8, 8, 8, 8, 8, 8, 8, 8, 8, 8, 8, 8, 8, 8, 8, 8, 8, 8, 8, 8, 8, 8, 8, 8, 8, 8, 8, 8, 8, 8, 8, 8, 8, 8, 8, 8, 8, 8, 8, 8, 8, 8, 8, 8, 8, 8, 8, 8, 8, 8, 8, 8, 8, 8, 8, 8, 8, 8, 8, 8, 8, 8, 8, 8, 8, 8, 8, 8, 8, 8, 8, 8, 8, 8, 8, 8, 8, 8, 8, 8, 8, 8, 8, 8, 8, 8, 8, 8, 8, 8, 8, 8, 8, 8, 8, 8, 8, 8, 8, 8, 8, 8, 8, 8, 8, 8, 8, 8, 8, 8, 8, 8, 8, 8, 8, 8, 8, 8, 8, 8, 8]⟩ : ByteArray) (IntKind.u8.wrap (s3.1))) (fun x1 => M.ret (w64 (s3.2 + (w64 (x1))))))))

def internal_bytealg_Cutover (n_ : Int) : M Int :=
  M.ret (w64 ((w64 (n_ + 16)).tdiv 8))

def internal_bytealg_hashStr_string_ (sep : ByteArray) : M (Int × Int) :=
  M.bind (M.forI 0 (sep.size : Int) (fun s => s) (fun i1 => (fun (s1 : Int) => M.bind (M.sidx sep i1) (fun x2 => M.ret (.inl (IntKind.u32.wrap ((IntKind.u32.wrap (s1 * 16777619)) + (IntKind.u32.wrap (x2)))))))) 0) (fun x1 => M.bind (M.loop (fun (s2 : Int × Int × Int) => M.ite (decide (0 < s2.2.2)) (M.bind (M.ite ((ibit .and .i64 s2.2.2 1) != 0) (M.ret (IntKind.u32.wrap (s2.1 * s2.2.1))) (M.ret s2.1)) (fun (s3 : Int) => M.bind (M.guard (decide (0 ≤ 1))) (fun _ => M.ret (.inl (s3, (IntKind.u32.wrap (s2.2.1 * s2.2.1)), (ishr .i64 s2.2.2 1)))))) (M.ret (.inr (s2.1, s2.2.1, s2.2.2)))) (1, 16777619, (sep.size : Int))) (fun x3 => M.ret (x1, x3.1)))

def internal_bytealg_IndexRabinKarp_string_ (s_ : ByteArray) (sep : ByteArray) : M Int :=
  M.bind (internal_bytealg_hashStr_string_ sep) (fun x1 => M.bind (M.forI 0 (sep.size : Int) (fun s => s) (fun i1 => (fun (s1 : Int) => M.bind (M.sidx s_ i1) (fun x3 => M.ret (.inl (IntKind.u32.wrap ((IntKind.u32.wrap (s1 * 16777619)) + (IntKind.u32.wrap (x3)))))))) 0) (fun x2 => M.bind (M.ite (x2 == x1.1) (M.bind (M.ssub s_ 0 (sep.size : Int)) (fun x5 => M.ret (x5.toList == sep.toList))) (M.ret false)) (fun x4 => M.ite x4 (M.ret 0) (M.bind (M.loop (fun (s2 : Int × Int) => M.ite (decide (s2.2 < (s_.size : Int))) (M.bind (M.sidx s_ s2.2) (fun x7 => M.bind (M.sidx s_ (w64 (s2.2 - (sep.size : Int)))) (fun x8 => M.bind (M.ite ((IntKind.u32.wrap ((IntKind.u32.wrap ((IntKind.u32.wrap (s2.1 * 16777619)) + (IntKind.u32.wrap (x7)))) - (IntKind.u32.wrap (x1.2 * (IntKind.u32.wrap (x8)))))) == x1.1) (M.bind (M.ssub s_ (w64 ((w64 (s2.2 + 1)) - (sep.size : Int))) (w64 (s2.2 + 1))) (fun x10 => M.ret (x10.toList == sep.toList))) (M.ret false)) (fun x9 => M.ite x9 (M.ret (.inr (.inr (w64 ((w64 (s2.2 + 1)) - (sep.size : Int)))))) (M.ret (.inl ((IntKind.u32.wrap ((IntKind.u32.wrap ((IntKind.u32.wrap (s2.1 * 16777619)) + (IntKind.u32.wrap (x7)))) - (IntKind.u32.wrap (x1.2 * (IntKind.u32.wrap (x8)))))), (w64 (s2.2 + 1))))))))) (M.ret (.inr (.inl (s2.1, s2.2))))) (x2, (sep.size : Int))) (fun x6 => M.cont x6 (fun _ => M.ret (-1)) (fun r => M.ret r))))))

def strings_Split (s_ : ByteArray) (sep : ByteArray) : M (List ByteArray) :=
  M.bind (M.guard (decide (s_.size < 4294967281) && decide (1 ≤ sep.size))) (fun _ => M.ret (Lib.splitB sep 0 (Lib.countB s_ sep) s_))

def internal_strconv_lower (c_ : Int) : M Int :=
  M.ret (ibit .or .u8 c_ 32)

def internal_strconv_underscoreOK (s_ : ByteArray) : M Bool :=
  M.bind (M.ite (decide (1 ≤ (s_.size : Int))) (M.bind (M.sidx s_ 0) (fun x2 => M.bind (M.ite (x2 == 45) (M.ret true) (M.bind (M.sidx s_ 0) (fun x4 => M.ret (x4 == 43)))) (fun x3 => M.ret x3))) (M.ret false)) (fun x1 => M.bind (M.ite x1 (M.bind (M.ssub s_ 1 (s_.size : Int)) (fun x5 => M.ret x5)) (M.ret s_)) (fun (s1 : ByteArray) => M.bind (M.ite (decide (2 ≤ (s1.size : Int))) (M.bind (M.sidx s1 0) (fun x7 => M.ret (x7 == 48))) (M.ret false)) (fun x6 => M.bind (M.ite x6 (M.bind (M.sidx s1 1) (fun x9 => M.bind (internal_strconv_lower x9) (fun x10 => M.bind (M.ite (x10 == 98) (M.ret true) (M.bind (M.sidx s1 1) (fun x12 => M.bind (internal_strconv_lower x12) (fun x13 => M.ret (x13 == 111))))) (fun x11 => M.bind (M.ite x11 (M.ret true) (M.bind (M.sidx s1 1) (fun x15 => M.bind (internal_strconv_lower x15) (fun x16 => M.ret (x16 == 120))))) (fun x14 => M.ret x14))))) (M.ret false)) (fun x8 => M.bind (M.ite x8 (M.bind (M.sidx s1 1) (fun x17 => M.bind (internal_strconv_lower x17) (fun x18 => M.ret (48, 2, (x18 == 120))))) (M.ret (94, 0, false))) (fun (s2 : Int × Int × Bool) => M.bind (M.forI s2.2.1 (s1.size : Int) (fun s => .inl s) (fun i1 => (fun (s3 : Int) => M.bind (M.sidx s1 i1) (fun x20 => M.bind (M.ite (decide (48 ≤ x20)) (M.bind (M.sidx s1 i1) (fun x22 => M.ret (decide (x22 ≤ 57)))) (M.ret false)) (fun x21 => M.bind (M.ite x21 (M.ret true) (M.bind (M.ite s2.2.2 (M.bind (M.sidx s1 i1) (fun x25 => M.bind (internal_strconv_lower x25) (fun x26 => M.ret (decide (97 ≤ x26))))) (M.ret false)) (fun x24 => M.bind (M.ite x24 (M.bind (M.sidx s1 i1) (fun x28 => M.bind (internal_strconv_lower x28) (fun x29 => M.ret (decide (x29 ≤ 102))))) (M.ret false)) (fun x27 => M.ret x27)))) (fun x23 => M.ite x23 (M.ret (.inl 48)) (M.bind (M.sidx s1 i1) (fun x30 => M.ite (x30 == 95) (M.ite (s3 != 48) (M.ret (.inr (.inr false))) (M.ret (.inl 95))) (M.ite (s3 == 95) (M.ret (.inr (.inr false))) (M.ret (.inl 33)))))))))) s2.1) (fun x19 => M.cont x19 (fun s4 => M.ret (s4 != 95)) (fun r => M.ret r)))))))

def strconv_ParseInt (s_ : ByteArray) (base : Int) (bits : Int) : M (Int × Bool) :=
  M.bind (M.guard (decide (s_.size ≤ 281474976710656) && decide (base = 10) && decide (bits = 64))) (fun _ => M.ret (parseR s_))

def impl_readNumber (s_ : ByteArray) : M (Int × Bool) :=
  M.bind (strconv_ParseInt s_ 10 64) (fun x1 => M.bind (M.ite x1.2 (M.ret true) (M.bind (impl_decimal x1.1) (fun x3 => M.ret (!(x3.toList == s_.toList))))) (fun x2 => M.ite x2 (M.ret (0, false)) (M.ret (x1.1, true))))

def strings_Cut (s_ : ByteArray) (sep : ByteArray) : M (ByteArray × ByteArray × Bool) :=
  M.bind (M.guard (decide (s_.size < 4294967281))) (fun _ => M.ret ((⟨(Lib.cut s_.data.toList sep.data.toList).1.toArray⟩ : ByteArray), (⟨(Lib.cut s_.data.toList sep.data.toList).2.1.toArray⟩ : ByteArray), (Lib.cut s_.data.toList sep.data.toList).2.2))

def impl_readPlace (s_ : ByteArray) : M (TPlace × Bool) :=
  M.bind (strings_Cut s_ (⟨#[62]⟩ : ByteArray)) (fun x1 => M.bind (strings_Cut x1.2.1 (⟨#[58]⟩ : ByteArray)) (fun x2 => M.bind (strings_Cut x2.2.1 (⟨#[42]⟩ : ByteArray)) (fun x3 => M.bind (impl_readNumber x1.1) (fun x4 => M.ite (!x4.2) (M.ret ((⟨0, 0, 0, 0⟩ : TPlace), false)) (M.bind (impl_readNumber x2.1) (fun x5 => M.ite (!x5.2) (M.ret ((⟨0, 0, 0, 0⟩ : TPlace), false)) (M.bind (impl_readNumber x3.1) (fun x6 => M.ite (!x6.2) (M.ret ((⟨0, 0, 0, 0⟩ : TPlace), false)) (M.bind (impl_readNumber x3.2.1) (fun x7 => M.ite (!x7.2) (M.ret ((⟨0, 0, 0, 0⟩ : TPlace), false)) (M.ret ((⟨x4.1, x5.1, x6.1, x7.1⟩ : TPlace), true))))))))))))

def impl_ReadGraph (s_ : ByteArray) : M (TGraph × Bool) :=
  M.bind (strings_Split s_ (⟨#[32]⟩ : ByteArray)) (fun x1 => M.bind (M.idx x1 0) (fun x2 => M.bind (impl_readNumber x2) (fun x3 => M.bind (M.sub x1 1 (x1.length : Int)) (fun x4 => M.bind (M.forI 0 (((x1.length : Int).toNat - (1 : Int).toNat : Nat) : Int) (fun s => s) (fun i1 => (fun (s1 : Bool × (List TPlace)) => M.bind (M.idx x4 i1) (fun x6 => M.bind (impl_readPlace x6) (fun x7 => M.bind (M.app s1.2 ([x7.1] : List TPlace)) (fun l1 => M.ret (.inl ((s1.1 && x7.2), l1))))))) (x3.2, [])) (fun x5 => M.bind (M.ite (!x5.1) (M.ret true) (M.bind (impl_IsEventGraph (⟨x3.1, x5.2⟩ : TGraph)) (fun x10 => M.ret (!x10)))) (fun x9 => M.ite x9 (M.ret ((⟨0, []⟩ : TGraph), false)) (M.ret ((⟨x3.1, x5.2⟩ : TGraph), true))))))))

def spec_l01Damage (s_ : TL01source) (t : ByteArray) : M (ByteArray × TL01source) :=
  M.bind (spec_l01Next s_ (w64 ((t.size : Int) + 1))) (fun x1 => M.bind (spec_l01Next (⟨s_.code, x1.2.at_, x1.2.seed⟩ : TL01source) 8) (fun x2 => M.ite (x2.1 == 0) (M.bind (M.ssub t 0 x1.1) (fun x3 => M.ret (x3, (⟨s_.code, x2.2.at_, x2.2.seed⟩ : TL01source)))) (M.ite (x2.1 == 1) (M.bind (M.bind (M.ssub t 0 x1.1) (fun x6 => M.bind (M.ssub t x1.1 (t.size : Int)) (fun x7 => M.bind (spec_l01Next (⟨s_.code, x2.2.at_, x2.2.seed⟩ : TL01source) 8) (fun x8 => M.bind (M.idx ([(⟨#[48]⟩ : ByteArray), (⟨#[49]⟩ : ByteArray), (⟨#[32]⟩ : ByteArray), (⟨#[45]⟩ : ByteArray), (⟨#[46]⟩ : ByteArray), (⟨#[44]⟩ : ByteArray), (⟨#[10]⟩ : ByteArray), (⟨#[59]⟩ : ByteArray)] : List ByteArray) x8.1) (fun x9 => M.bind (M.cat x6 x9) (fun x10 => M.bind (M.cat x10 x7) (fun x11 => M.ret (x11, x8.2.at_, x8.2.seed)))))))) (fun (s1 : ByteArray × Int × Int) => M.ret (s1.1, (⟨s_.code, s1.2.1, s1.2.2⟩ : TL01source)))) (M.ite (x2.1 == 2) (M.ite (decide (x1.1 < (t.size : Int))) (M.bind (M.ssub t 0 x1.1) (fun x16 => M.bind (M.ssub t (w64 (x1.1 + 1)) (t.size : Int)) (fun x17 => M.bind (M.cat x16 x17) (fun x18 => M.ret (x18, (⟨s_.code, x2.2.at_, x2.2.seed⟩ : TL01source)))))) (M.ret (t, (⟨s_.code, x2.2.at_, x2.2.seed⟩ : TL01source)))) (M.ret (t, (⟨s_.code, x2.2.at_, x2.2.seed⟩ : TL01source)))))))

def spec_DrawReadGraph (code : List Int) : M ByteArray :=
  M.bind (spec_l01From code) (fun x1 => M.bind (spec_l11Draw x1) (fun x2 => M.bind (spec_GraphText x2.1) (fun x3 => M.bind (spec_l01Next (⟨x1.code, x2.2.at_, x2.2.seed⟩ : TL01source) 3) (fun x4 => M.ite (x4.1 == 0) (M.bind (spec_l01Damage (⟨x1.code, x4.2.at_, x4.2.seed⟩ : TL01source) x3) (fun x5 => M.ret x5.1)) (M.ret x3)))))

def spec_l01Split (s_ : ByteArray) (by_ : Int) : M ((List ByteArray)) :=
  M.bind (M.loop (fun (s1 : (List ByteArray) × Int × Int) => M.ite (decide (s1.2.2 ≤ (s_.size : Int))) (M.bind (M.ite (s1.2.2 == (s_.size : Int)) (M.ret true) (M.bind (M.sidx s_ s1.2.2) (fun x3 => M.ret (x3 == by_)))) (fun x2 => M.bind (M.ite x2 (M.bind (M.ssub s_ s1.2.1 s1.2.2) (fun x4 => M.bind (M.app s1.1 ([x4] : List ByteArray)) (fun l1 => M.ret (l1, (w64 (s1.2.2 + 1)))))) (M.ret (s1.1, s1.2.1))) (fun (s2 : (List ByteArray) × Int) => M.ret (.inl (s2.1, s2.2, (w64 (s1.2.2 + 1))))))) (M.ret (.inr (s1.1, s1.2.1, s1.2.2)))) (([] : List ByteArray), 0, 0)) (fun x1 => M.ret x1.1)

def spec_l01Digits (s_ : ByteArray) : M (Int × Bool) :=
  M.ite ((decide ((s_.size : Int) < 1)) || (decide (10 < (s_.size : Int)))) (M.ret (0, false)) (M.bind (M.forI 0 (s_.size : Int) (fun s => .inl s) (fun i1 => (fun (s1 : Int) => M.bind (M.sidx s_ i1) (fun x3 => M.bind (M.ite (decide (x3 < 48)) (M.ret true) (M.bind (M.sidx s_ i1) (fun x5 => M.ret (decide (57 < x5))))) (fun x4 => M.ite x4 (M.ret (.inr (.inr (0, false)))) (M.bind (M.sidx s_ i1) (fun x6 => M.ret (.inl (w64 ((w64 (10 * s1)) + (w64 (IntKind.u8.wrap (x6 - 48)))))))))))) 0) (fun x2 => M.cont x2 (fun s2 => M.bind (spec_l01Dec s2) (fun x7 => M.ret (s2, (x7.toList == s_.toList)))) (fun r => M.ret r)))

def spec_l01Signed (s_ : ByteArray) : M (Int × Bool) :=
  M.bind (M.ite (decide (0 < (s_.size : Int))) (M.bind (M.sidx s_ 0) (fun x2 => M.ret (x2 == 45))) (M.ret false)) (fun x1 => M.ite x1 (M.bind (M.ssub s_ 1 (s_.size : Int)) (fun x3 => M.bind (spec_l01Digits x3) (fun x4 => M.ret ((w64 (0 - x4.1)), (x4.2 && (decide (0 < x4.1))))))) (M.bind (spec_l01Digits s_) (fun x6 => M.ret (x6.1, x6.2))))

def spec_l01Numbers (words : List ByteArray) : M ((List Int) × Bool) :=
  M.bind (M.forI 0 (words.length : Int) (fun s => .inl s) (fun i1 => (fun (s1 : (List Int)) => M.bind (M.idx words i1) (fun x2 => M.bind (spec_l01Signed x2) (fun x3 => M.ite (!x3.2) (M.ret (.inr (.inr (([] : List Int), false)))) (M.bind (M.app s1 ([x3.1] : List Int)) (fun l1 => M.ret (.inl l1))))))) ([] : List Int)) (fun x1 => M.cont x1 (fun s2 => M.ret (s2, true)) (fun r => M.ret r))

def spec_l11Read (s_ : ByteArray) : M (TPlace × Bool) :=
  M.bind (spec_l01Split s_ 62) (fun x1 => M.ite ((x1.length : Int) != 2) (M.ret ((⟨0, 0, 0, 0⟩ : TPlace), false)) (M.bind (M.idx x1 1) (fun x2 => M.bind (spec_l01Split x2 58) (fun x3 => M.ite ((x3.length : Int) != 2) (M.ret ((⟨0, 0, 0, 0⟩ : TPlace), false)) (M.bind (M.bind (M.idx x1 0) (fun x7 => M.bind (M.idx x3 0) (fun x8 => M.bind (M.idx x3 1) (fun x9 => M.bind (spec_l01Split x9 42) (fun x10 => M.bind (M.app ([x7, x8] : List ByteArray) x10) (fun l1 => M.bind (spec_l01Numbers l1) (fun x11 => M.ret (x11.1, x11.2)))))))) (fun (s1 : (List Int) × Bool) => M.ite ((!s1.2) || ((s1.1.length : Int) != 4)) (M.ret ((⟨0, 0, 0, 0⟩ : TPlace), false)) (M.bind (M.idx s1.1 0) (fun x15 => M.bind (M.idx s1.1 1) (fun x16 => M.bind (M.idx s1.1 2) (fun x17 => M.bind (M.idx s1.1 3) (fun x18 => M.ret ((⟨x15, x16, x17, x18⟩ : TPlace), true))))))))))))

def spec_ReadGraph (s_ : ByteArray) : M (TGraph × Bool) :=
  M.bind (spec_l01Split s_ 32) (fun x1 => M.bind (M.idx x1 0) (fun x2 => M.bind (spec_l01Digits x2) (fun x3 => M.bind (M.forI 1 (x1.length : Int) (fun s => s) (fun i1 => (fun (s1 : Bool × (List TPlace)) => M.bind (M.idx x1 i1) (fun x5 => M.bind (spec_l11Read x5) (fun x6 => M.bind (M.app s1.2 ([x6.1] : List TPlace)) (fun l1 => M.ret (.inl ((s1.1 && x6.2), l1))))))) (x3.2, ([] : List TPlace))) (fun x4 => M.bind (M.ite (!x4.1) (M.ret true) (M.bind (spec_IsEventGraph (⟨x3.1, x4.2⟩ : TGraph)) (fun x9 => M.ret (!x9)))) (fun x8 => M.ite x8 (M.ret ((⟨0, []⟩ : TGraph), false)) (M.ret ((⟨x3.1, x4.2⟩ : TGraph), true)))))))

def laws_FnGraphs (code : List Int) : M Bool :=
  M.bind (laws_big code) (fun x1 => M.ite x1 (M.ret true) (M.bind (spec_DrawAddPlace code) (fun x2 => M.bind (impl_AddPlace x2.1 x2.2) (fun x3 => M.bind (spec_AddPlace x2.1 x2.2) (fun x4 => M.bind (impl_GraphText x2.1) (fun x5 => M.bind (impl_ReadGraph x5) (fun x6 => M.bind (spec_DrawReadGraph code) (fun x7 => M.bind (impl_ReadGraph x7) (fun x8 => M.bind (spec_ReadGraph x7) (fun x9 => M.bind (M.ite (x3.2 != x4.2) (M.ret true) (M.bind (laws_likeGraphs9 x3.1 x4.1) (fun x11 => M.ret (!x11)))) (fun x10 => M.bind (M.ite x10 (M.ret true) (M.bind (spec_GraphText x2.1) (fun x13 => M.ret (!(x5.toList == x13.toList))))) (fun x12 => M.bind (M.ite (x12 || (!(x6.2 == (!(x5.toList == (⟨#[]⟩ : ByteArray).toList))))) (M.ret true) (M.bind (M.ite x6.2 (M.bind (laws_likeGraphs9 x6.1 x2.1) (fun x17 => M.ret (!x17))) (M.ret false)) (fun x16 => M.ret x16))) (fun x15 => M.bind (M.ite x15 (M.ret true) (M.bind (laws_likeGraphs9 x8.1 x9.1) (fun x19 => M.ret (!x19)))) (fun x18 => M.bind (M.ite (x18 || (!(x8.2 == x9.2))) (M.ret true) (M.bind (M.ite x8.2 (M.bind (impl_GraphText x8.1) (fun x23 => M.ret (!(x23.toList == x7.toList)))) (M.ret false)) (fun x22 => M.ret x22))) (fun x21 => M.bind (M.ite x21 (M.ret true) (M.bind (impl_IsEventGraph x2.1) (fun x25 => M.ret (!(x25 == x6.2))))) (fun x24 => M.ite x24 (M.ret false) (M.ite (x3.2 != 0) (M.ret true) (M.bind (impl_DropPlace x3.1 (x2.1.Places.length : Int)) (fun x26 => M.bind (M.ite (x26.2 == 0) (M.bind (laws_likeGraphs9 x26.1 x2.1) (fun x28 => M.ret x28)) (M.ret false)) (fun x27 => M.ret x27))))))))))))))))))))

end Go.Proofs.YtfhphkiggdepaaaDoor
