/-
  Plain programs: what each Go function that the law reaches computes, on lists and integers.
  Conditions: None beyond the given statement.
-/
import Derived.Test.YtfhphkiggdepaaaDoorM
namespace Go.Proofs.YtfhphkiggdepaaaDoor
open Go
structure TPlace where
  From : Int
  To : Int
  Delay : Int
  Tokens : Int
structure TGraph where
  Events : Int
  Places : List TPlace
structure TL01source where
  code : List Int
  at_ : Int
  seed : Int
structure TBoundserror where
  x : Int
  y : Int
  signed : Bool
  code : Int
structure TErroraddressstring where
  msg : ByteArray
  addr : Int
structure TRatio where
  Num : Int
  Den : Int
def spec_l01In (n_ : Int) (low : Int) (high : Int) : M Bool :=
  M.ret ((decide (low ≤ n_)) && (decide (n_ ≤ high)))

def impl_within (n_ : Int) (low : Int) (high : Int) : M Bool :=
  M.ret ((decide (low ≤ n_)) && (decide (n_ ≤ high)))

def laws_toPlace (a_ : TPlace) : M TPlace :=
  M.ret (⟨a_.From, a_.To, a_.Delay, a_.Tokens⟩ : TPlace)

def laws_toPlaceS (a_ : List TPlace) : M ((List TPlace)) :=
  M.bind (M.make (a_.length : Int) (⟨0, 0, 0, 0⟩ : TPlace)) (fun l1 => M.bind (M.forI 0 (a_.length : Int) (fun s => s) (fun i1 => (fun (s1 : (List TPlace)) => M.bind (M.idx a_ i1) (fun x2 => M.bind (laws_toPlace x2) (fun x3 => M.bind (M.idx s1 i1) (fun x4 => M.bind (M.upd s1 i1 (x3 : TPlace)) (fun l2 => M.ret (.inl l2))))))) l1) (fun x1 => M.ret x1))

def spec_l11Place (p : TPlace) (events : Int) : M Bool :=
  M.bind (spec_l01In p.From 0 (w64 (events - 1))) (fun x1 => M.bind (M.ite x1 (M.bind (spec_l01In p.To 0 (w64 (events - 1))) (fun x3 => M.ret x3)) (M.ret false)) (fun x2 => M.bind (M.ite x2 (M.bind (spec_l01In p.Delay 0 1000) (fun x5 => M.ret x5)) (M.ret false)) (fun x4 => M.bind (M.ite x4 (M.bind (spec_l01In p.Tokens 0 5) (fun x7 => M.ret x7)) (M.ret false)) (fun x6 => M.ret x6))))

def spec_IsEventGraph (g : TGraph) : M Bool :=
  M.bind (M.loop (fun (s1 : Int) => M.ite (decide (s1 < (g.Places.length : Int))) (M.bind (M.idx g.Places s1) (fun x2 => M.bind (spec_l11Place x2 g.Events) (fun x3 => M.ite (!x3) (M.ret (.inr (.inr false))) (M.ret (.inl (w64 (s1 + 1))))))) (M.ret (.inr (.inl s1)))) 0) (fun x1 => M.cont x1 (fun _ => M.bind (spec_l01In g.Events 1 10) (fun x4 => M.ret (x4 && (decide ((g.Places.length : Int) ≤ 30))))) (fun r => M.ret r))

def impl_isEvent (g : TGraph) (event : Int) : M Bool :=
  M.bind (impl_within event 0 (w64 (g.Events - 1))) (fun x1 => M.ret x1)

def impl_isPlace (g : TGraph) (p : TPlace) : M Bool :=
  M.bind (impl_isEvent g p.From) (fun x1 => M.bind (M.ite x1 (M.bind (impl_isEvent g p.To) (fun x3 => M.ret x3)) (M.ret false)) (fun x2 => M.bind (M.ite x2 (M.bind (impl_within p.Delay 0 1000) (fun x5 => M.ret x5)) (M.ret false)) (fun x4 => M.bind (M.ite x4 (M.bind (impl_within p.Tokens 0 5) (fun x7 => M.ret x7)) (M.ret false)) (fun x6 => M.ret x6))))

def impl_IsEventGraph_1 (p : TPlace) (z0 : TGraph) : M Bool :=
  M.bind (impl_isPlace z0 p) (fun x1 => M.ret (!x1))

def slices_IndexFunc_Place_F_impl_IsEventGraph_1 (s_ : List TPlace) (f0 : TGraph) : M Int :=
  M.bind (M.forI 0 (s_.length : Int) (fun s => .inl s) (fun i1 => (fun (_ : Unit) => M.bind (M.idx s_ i1) (fun x2 => M.bind (impl_IsEventGraph_1 x2 f0) (fun x3 => M.ite x3 (M.ret (.inr (.inr i1))) (M.ret (.inl ())))))) ()) (fun x1 => M.cont x1 (fun _ => M.ret (-1)) (fun r => M.ret r))

def slices_ContainsFunc_Place_F_impl_IsEventGraph_1 (s_ : List TPlace) (f0 : TGraph) : M Bool :=
  M.bind (slices_IndexFunc_Place_F_impl_IsEventGraph_1 s_ f0) (fun x1 => M.ret (decide (0 ≤ x1)))

def impl_IsEventGraph (g : TGraph) : M Bool :=
  M.bind (impl_within g.Events 1 10) (fun x1 => M.bind (M.ite (x1 && (decide ((g.Places.length : Int) ≤ 30))) (M.bind (slices_ContainsFunc_Place_F_impl_IsEventGraph_1 g.Places g) (fun x4 => M.ret (!x4))) (M.ret false)) (fun x3 => M.ret x3))

def laws_eqPlace (a_ : TPlace) (b : TPlace) : M Bool :=
  M.ite (a_.From != b.From) (M.ret false) (M.ite (a_.To != b.To) (M.ret false) (M.ite (a_.Delay != b.Delay) (M.ret false) (M.ite (a_.Tokens != b.Tokens) (M.ret false) (M.ret true))))

def laws_eqPlaceS (a_ : List TPlace) (b : List TPlace) : M Bool :=
  M.ite ((a_.length : Int) != (b.length : Int)) (M.ret false) (M.bind (M.forI 0 (a_.length : Int) (fun s => .inl s) (fun i1 => (fun (_ : Unit) => M.bind (M.idx a_ i1) (fun x2 => M.bind (M.idx b i1) (fun x3 => M.bind (laws_eqPlace x2 x3) (fun x4 => M.ite (!x4) (M.ret (.inr (.inr false))) (M.ret (.inl ()))))))) ()) (fun x1 => M.cont x1 (fun _ => M.ret true) (fun r => M.ret r)))

def laws_eqEventGraph (a_ : TGraph) (b : TGraph) : M Bool :=
  M.ite (a_.Events != b.Events) (M.ret false) (M.bind (laws_eqPlaceS a_.Places b.Places) (fun x1 => M.ite (!x1) (M.ret false) (M.ret true)))

def laws_markPlaceS (a_ : List TPlace) (k_ : Int) : M (Int × (List TPlace)) :=
  M.bind (M.forI 0 (a_.length : Int) (fun s => s) (fun i1 => (fun (s1 : (List TPlace) × Int) => M.bind (M.idx s1.1 i1) (fun x2 => M.bind (M.upd s1.1 i1 (⟨s1.2, x2.To, x2.Delay, x2.Tokens⟩ : TPlace)) (fun l1 => M.bind (M.idx l1 i1) (fun x3 => M.bind (M.upd l1 i1 (⟨x3.From, (w64 (s1.2 + 1)), x3.Delay, x3.Tokens⟩ : TPlace)) (fun l2 => M.bind (M.idx l2 i1) (fun x4 => M.bind (M.upd l2 i1 (⟨x4.From, x4.To, (w64 ((w64 (s1.2 + 1)) + 1)), x4.Tokens⟩ : TPlace)) (fun l3 => M.bind (M.idx l3 i1) (fun x5 => M.bind (M.upd l3 i1 (⟨x5.From, x5.To, x5.Delay, (w64 ((w64 ((w64 (s1.2 + 1)) + 1)) + 1))⟩ : TPlace)) (fun l4 => M.ret (.inl (l4, (w64 ((w64 ((w64 ((w64 (s1.2 + 1)) + 1)) + 1)) + 1)))))))))))))) (a_, k_)) (fun x1 => M.ret (x1.2, x1.1))

def laws_markEventGraph (a_ : TGraph) (k_ : Int) : M (Int × (List TPlace)) :=
  M.bind (laws_markPlaceS a_.Places k_) (fun x1 => M.ret (x1.1, x1.2))

def laws_heldPlaceS (a_ : List TPlace) (k_ : Int) : M Int :=
  M.bind (M.forI 0 (a_.length : Int) (fun s => .inl s) (fun i1 => (fun (s1 : Int) => M.bind (M.idx a_ i1) (fun x2 => M.ite (x2.From != s1) (M.ret (.inr (.inr (-1)))) (M.bind (M.idx a_ i1) (fun x3 => M.ite (x3.To != (w64 (s1 + 1))) (M.ret (.inr (.inr (-1)))) (M.bind (M.idx a_ i1) (fun x4 => M.ite (x4.Delay != (w64 ((w64 (s1 + 1)) + 1))) (M.ret (.inr (.inr (-1)))) (M.bind (M.idx a_ i1) (fun x5 => M.ite (x5.Tokens != (w64 ((w64 ((w64 (s1 + 1)) + 1)) + 1))) (M.ret (.inr (.inr (-1)))) (M.ret (.inl (w64 ((w64 ((w64 ((w64 (s1 + 1)) + 1)) + 1)) + 1))))))))))))) k_) (fun x1 => M.cont x1 (fun s2 => M.ret s2) (fun r => M.ret r))

def laws_heldEventGraph (a_ : TGraph) (k_ : Int) : M Int :=
  M.bind (laws_heldPlaceS a_.Places k_) (fun x1 => M.ite (decide (x1 < 0)) (M.ret (-1)) (M.ret x1))

def spec_l01Dec_R : Nat → Int → M ByteArray
  | 0, _ => M.fail
  | kR + 1, n_ => M.ite (decide (n_ < 10)) (M.ret (toS ([(IntKind.u8.wrap (w64 (48 + n_)))] : List Int))) (M.bind (spec_l01Dec_R kR (w64 (n_.tdiv 10))) (fun x1 => M.bind (M.cat x1 (toS ([(IntKind.u8.wrap (w64 (48 + (n_.tmod 10))))] : List Int))) (fun x2 => M.ret x2)))

def spec_l01Dec (n_ : Int) : M ByteArray := fun n => spec_l01Dec_R n n_ n

def internal_strconv_log10Pow2 (x_ : Int) : M Int :=
  M.bind (M.guard (decide (0 ≤ 18))) (fun _ => M.ret (ishr .i64 (w64 (x_ * 78913)) 18))

def internal_strconv_bool2_n (b : Bool) : M Int :=
  M.ite b (M.ret 1) (M.ret 0)

def internal_strconv_isPowerOfTwo (x_ : Int) : M Bool :=
  M.ret ((ibit .and .i64 x_ (w64 (x_ - 1))) == 0)

def strconv_FormatInt (i : Int) (base : Int) : M ByteArray :=
  M.bind (M.guard (decide (-9223372036854775808 ≤ i) && decide (i ≤ 9223372036854775807) && decide (base = 10))) (fun _ => M.ret (⟨(Lib.itoa i).toArray⟩ : ByteArray))

def impl_decimal (n_ : Int) : M ByteArray :=
  M.bind (strconv_FormatInt n_ 10) (fun x1 => M.ret x1)

def internal_strconv_small (i : Int) : M ByteArray :=
  M.ite (decide (i < 10)) (M.bind (M.ssub (⟨#[48, 49, 50, 51, 52, 53, 54, 55, 56, 57, 97, 98, 99, 100, 101, 102, 103, 104, 105, 106, 107, 108, 109, 110, 111, 112, 113, 114, 115, 116, 117, 118, 119, 120, 121, 122]⟩ : ByteArray) i (w64 (i + 1))) (fun x1 => M.ret x1)) (M.bind (M.ssub (⟨#[48, 48, 48, 49, 48, 50, 48, 51, 48, 52, 48, 53, 48, 54, 48, 55, 48, 56, 48, 57, 49, 48, 49, 49, 49, 50, 49, 51, 49, 52, 49, 53, 49, 54, 49, 55, 49, 56, 49, 57, 50, 48, 50, 49, 50, 50, 50, 51, 50, 52, 50, 53, 50, 54, 50, 55, 50, 56, 50, 57, 51, 48, 51, 49, 51, 50, 51, 51, 51, 52, 51, 53, 51, 54, 51, 55, 51, 56, 51, 57, 52, 48, 52, 49, 52, 50, 52, 51, 52, 52, 52, 53, 52, 54, 52, 55, 52, 56, 52, 57, 53, 48, 53, 49, 53, 50, 53, 51, 53, 52, 53, 53, 53, 54, 53, 55, 53, 56, 53, 57, 54, 48, 54, 49, 54, 50, 54, 51, 54, 52, 54, 53, 54, 54, 54, 55, 54, 56, 54, 57, 55, 48, 55, 49, 55, 50, 55, 51, 55, 52, 55, 53, 55, 54, 55, 55, 55, 56, 55, 57, 56, 48, 56, 49, 56, 50, 56, 51, 56, 52, 56, 53, 56, 54, 56, 55, 56, 56, 56, 57, 57, 48, 57, 49, 57, 50, 57, 51, 57, 52, 57, 53, 57, 54, 57, 55, 57, 56, 57, 57]⟩ : ByteArray) (w64 (i * 2)) (w64 ((w64 (i * 2)) + 2))) (fun x2 => M.ret x2))

def math_bits_Len64 (x_ : Int) : M Int :=
  M.bind (M.ite (decide (4294967296 ≤ x_)) (M.bind (M.guard (decide (0 ≤ 32))) (fun _ => M.ret ((ishr .u64 x_ 32), 32))) (M.ret (x_, 0))) (fun (s1 : Int × Int) => M.bind (M.ite (decide (65536 ≤ s1.1)) (M.bind (M.guard (decide (0 ≤ 16))) (fun _ => M.ret ((ishr .u64 s1.1 16), (w64 (s1.2 + 16))))) (M.ret (s1.1, s1.2))) (fun (s2 : Int × Int) => M.bind (M.ite (decide (256 ≤ s2.1)) (M.bind (M.guard (decide (0 ≤ 8))) (fun _ => M.ret ((ishr .u64 s2.1 8), (w64 (s2.2 + 8))))) (M.ret (s2.1, s2.2))) (fun (s3 : Int × Int) => M.bind (M.sidx (⟨#[0, 1, 2, 2, 3, 3, 3, 3, 4, 4, 4, 4, 4, 4, 4, 4, 5, 5, 5, 5, 5, 5, 5, 5, 5, 5, 5, 5, 5, 5, 5, 5, 6, 6, 6, 6, 6, 6, 6, 6, 6, 6, 6, 6, 6, 6, 6, 6, 6, 6, 6, 6, 6, 6, 6, 6, 6, 6, 6, 6, 6, 6, 6, 6, 7, 7, 7, 7, 7, 7, 7, 7, 7, 7, 7, 7, 7, 7, 7, 7, 7, 7, 7, 7, 7, 7, 7, 7, 7, 7, 7, 7, 7, 7, 7, 7, 7, 7, 7, 7, 7, 7, 7, 7, 7, 7, 7, 7, 7, 7, 7, 7, 7, 7, 7, 7, 7, 7, 7, 7, 7, 7, 7, 7, 7, 7, 7, 7, 8, 8, 8, 8, 8, 8, 8, 8, 8, 8, 8, 8, 8, 8, 8, 8, 8, 8, 8, 8, 8, 8, 8, 8, 8, 8, 8, 8, 8, 8, 8, 8, 8, 8, 8, 8, 8, 8, 8, 8, 8, 8, 8, 8, 8, 8, 8, 8, 8, 8, 8, 8, 8, 8, 8, 8, 8, 8, 8, 8, 8, 8, 8, 8, 8, 8, 8, 8, 8, 8, 8, 8, 8, 8, 8, 8, 8, 8, 8, 8, 8, 8, 8, 8, 8, 8, 8, 8, 8, 8, 8, 8, 8, 8, 8, 8, 8, 8, 8, 8, 8, 8, 8, 8, 8, 8, 8, 8, 8, 8, 8, 8, 8, 8, 8, 8, 8, 8, 8, 8, 8, 8, 8, 8, 8, 8, 8, 8]⟩ : ByteArray) (IntKind.u8.wrap (s3.1))) (fun x1 => M.ret (w64 (s3.2 + (w64 (x1))))))))

def internal_bytealg_Cutover (n_ : Int) : M Int :=
  M.ret (w64 ((w64 (n_ + 16)).tdiv 8))

def internal_bytealg_hashStr_string_ (sep : ByteArray) : M (Int × Int) :=
  M.bind (M.forI 0 (sep.size : Int) (fun s => s) (fun i1 => (fun (s1 : Int) => M.bind (M.sidx sep i1) (fun x2 => M.ret (.inl (IntKind.u32.wrap ((IntKind.u32.wrap (s1 * 16777619)) + (IntKind.u32.wrap (x2)))))))) 0) (fun x1 => M.bind (M.loop (fun (s2 : Int × Int × Int) => M.ite (decide (0 < s2.2.2)) (M.bind (M.ite ((ibit .and .i64 s2.2.2 1) != 0) (M.ret (IntKind.u32.wrap (s2.1 * s2.2.1))) (M.ret s2.1)) (fun (s3 : Int) => M.bind (M.guard (decide (0 ≤ 1))) (fun _ => M.ret (.inl (s3, (IntKind.u32.wrap (s2.2.1 * s2.2.1)), (ishr .i64 s2.2.2 1)))))) (M.ret (.inr (s2.1, s2.2.1, s2.2.2)))) (1, 16777619, (sep.size : Int))) (fun x3 => M.ret (x1, x3.1)))

def internal_bytealg_IndexRabinKarp_string_ (s_ : ByteArray) (sep : ByteArray) : M Int :=
  M.bind (internal_bytealg_hashStr_string_ sep) (fun x1 => M.bind (M.forI 0 (sep.size : Int) (fun s => s) (fun i1 => (fun (s1 : Int) => M.bind (M.sidx s_ i1) (fun x3 => M.ret (.inl (IntKind.u32.wrap ((IntKind.u32.wrap (s1 * 16777619)) + (IntKind.u32.wrap (x3)))))))) 0) (fun x2 => M.bind (M.ite (x2 == x1.1) (M.bind (M.ssub s_ 0 (sep.size : Int)) (fun x5 => M.ret (x5.toList == sep.toList))) (M.ret false)) (fun x4 => M.ite x4 (M.ret 0) (M.bind (M.loop (fun (s2 : Int × Int) => M.ite (decide (s2.2 < (s_.size : Int))) (M.bind (M.sidx s_ s2.2) (fun x7 => M.bind (M.sidx s_ (w64 (s2.2 - (sep.size : Int)))) (fun x8 => M.bind (M.ite ((IntKind.u32.wrap ((IntKind.u32.wrap ((IntKind.u32.wrap (s2.1 * 16777619)) + (IntKind.u32.wrap (x7)))) - (IntKind.u32.wrap (x1.2 * (IntKind.u32.wrap (x8)))))) == x1.1) (M.bind (M.ssub s_ (w64 ((w64 (s2.2 + 1)) - (sep.size : Int))) (w64 (s2.2 + 1))) (fun x10 => M.ret (x10.toList == sep.toList))) (M.ret false)) (fun x9 => M.ite x9 (M.ret (.inr (.inr (w64 ((w64 (s2.2 + 1)) - (sep.size : Int)))))) (M.ret (.inl ((IntKind.u32.wrap ((IntKind.u32.wrap ((IntKind.u32.wrap (s2.1 * 16777619)) + (IntKind.u32.wrap (x7)))) - (IntKind.u32.wrap (x1.2 * (IntKind.u32.wrap (x8)))))), (w64 (s2.2 + 1))))))))) (M.ret (.inr (.inl (s2.1, s2.2))))) (x2, (sep.size : Int))) (fun x6 => M.cont x6 (fun _ => M.ret (-1)) (fun r => M.ret r))))))

def strings_Split (s_ : ByteArray) (sep : ByteArray) : M (List ByteArray) :=
  M.bind (M.guard (decide (s_.size < 4294967281) && decide (1 ≤ sep.size))) (fun _ => M.ret (Lib.splitB sep 0 (Lib.countB s_ sep) s_))

def internal_strconv_lower (c_ : Int) : M Int :=
  M.ret (ibit .or .u8 c_ 32)

def internal_strconv_underscoreOK (s_ : ByteArray) : M Bool :=
  M.bind (M.ite (decide (1 ≤ (s_.size : Int))) (M.bind (M.sidx s_ 0) (fun x2 => M.bind (M.ite (x2 == 45) (M.ret true) (M.bind (M.sidx s_ 0) (fun x4 => M.ret (x4 == 43)))) (fun x3 => M.ret x3))) (M.ret false)) (fun x1 => M.bind (M.ite x1 (M.bind (M.ssub s_ 1 (s_.size : Int)) (fun x5 => M.ret x5)) (M.ret s_)) (fun (s1 : ByteArray) => M.bind (M.ite (decide (2 ≤ (s1.size : Int))) (M.bind (M.sidx s1 0) (fun x7 => M.ret (x7 == 48))) (M.ret false)) (fun x6 => M.bind (M.ite x6 (M.bind (M.sidx s1 1) (fun x9 => M.bind (internal_strconv_lower x9) (fun x10 => M.bind (M.ite (x10 == 98) (M.ret true) (M.bind (M.sidx s1 1) (fun x12 => M.bind (internal_strconv_lower x12) (fun x13 => M.ret (x13 == 111))))) (fun x11 => M.bind (M.ite x11 (M.ret true) (M.bind (M.sidx s1 1) (fun x15 => M.bind (internal_strconv_lower x15) (fun x16 => M.ret (x16 == 120))))) (fun x14 => M.ret x14))))) (M.ret false)) (fun x8 => M.bind (M.ite x8 (M.bind (M.sidx s1 1) (fun x17 => M.bind (internal_strconv_lower x17) (fun x18 => M.ret (48, 2, (x18 == 120))))) (M.ret (94, 0, false))) (fun (s2 : Int × Int × Bool) => M.bind (M.forI s2.2.1 (s1.size : Int) (fun s => .inl s) (fun i1 => (fun (s3 : Int) => M.bind (M.sidx s1 i1) (fun x20 => M.bind (M.ite (decide (48 ≤ x20)) (M.bind (M.sidx s1 i1) (fun x22 => M.ret (decide (x22 ≤ 57)))) (M.ret false)) (fun x21 => M.bind (M.ite x21 (M.ret true) (M.bind (M.ite s2.2.2 (M.bind (M.sidx s1 i1) (fun x25 => M.bind (internal_strconv_lower x25) (fun x26 => M.ret (decide (97 ≤ x26))))) (M.ret false)) (fun x24 => M.bind (M.ite x24 (M.bind (M.sidx s1 i1) (fun x28 => M.bind (internal_strconv_lower x28) (fun x29 => M.ret (decide (x29 ≤ 102))))) (M.ret false)) (fun x27 => M.ret x27)))) (fun x23 => M.ite x23 (M.ret (.inl 48)) (M.bind (M.sidx s1 i1) (fun x30 => M.ite (x30 == 95) (M.ite (s3 != 48) (M.ret (.inr (.inr false))) (M.ret (.inl 95))) (M.ite (s3 == 95) (M.ret (.inr (.inr false))) (M.ret (.inl 33)))))))))) s2.1) (fun x19 => M.cont x19 (fun s4 => M.ret (s4 != 95)) (fun r => M.ret r)))))))

def strconv_ParseInt (s_ : ByteArray) (base : Int) (bits : Int) : M (Int × Bool) :=
  M.bind (M.guard (decide (s_.size ≤ 281474976710656) && decide (base = 10) && decide (bits = 64))) (fun _ => M.ret (parseR s_))

def impl_readNumber (s_ : ByteArray) : M (Int × Bool) :=
  M.bind (strconv_ParseInt s_ 10 64) (fun x1 => M.bind (M.ite x1.2 (M.ret true) (M.bind (impl_decimal x1.1) (fun x3 => M.ret (!(x3.toList == s_.toList))))) (fun x2 => M.ite x2 (M.ret (0, false)) (M.ret (x1.1, true))))

def strings_Cut (s_ : ByteArray) (sep : ByteArray) : M (ByteArray × ByteArray × Bool) :=
  M.bind (M.guard (decide (s_.size < 4294967281))) (fun _ => M.ret ((⟨(Lib.cut s_.data.toList sep.data.toList).1.toArray⟩ : ByteArray), (⟨(Lib.cut s_.data.toList sep.data.toList).2.1.toArray⟩ : ByteArray), (Lib.cut s_.data.toList sep.data.toList).2.2))

def impl_readPlace (s_ : ByteArray) : M (TPlace × Bool) :=
  M.bind (strings_Cut s_ (⟨#[62]⟩ : ByteArray)) (fun x1 => M.bind (strings_Cut x1.2.1 (⟨#[58]⟩ : ByteArray)) (fun x2 => M.bind (strings_Cut x2.2.1 (⟨#[42]⟩ : ByteArray)) (fun x3 => M.bind (impl_readNumber x1.1) (fun x4 => M.ite (!x4.2) (M.ret ((⟨0, 0, 0, 0⟩ : TPlace), false)) (M.bind (impl_readNumber x2.1) (fun x5 => M.ite (!x5.2) (M.ret ((⟨0, 0, 0, 0⟩ : TPlace), false)) (M.bind (impl_readNumber x3.1) (fun x6 => M.ite (!x6.2) (M.ret ((⟨0, 0, 0, 0⟩ : TPlace), false)) (M.bind (impl_readNumber x3.2.1) (fun x7 => M.ite (!x7.2) (M.ret ((⟨0, 0, 0, 0⟩ : TPlace), false)) (M.ret ((⟨x4.1, x5.1, x6.1, x7.1⟩ : TPlace), true))))))))))))

def impl_ReadGraph (s_ : ByteArray) : M (TGraph × Bool) :=
  M.bind (strings_Split s_ (⟨#[32]⟩ : ByteArray)) (fun x1 => M.bind (M.idx x1 0) (fun x2 => M.bind (impl_readNumber x2) (fun x3 => M.bind (M.sub x1 1 (x1.length : Int)) (fun x4 => M.bind (M.forI 0 (((x1.length : Int).toNat - (1 : Int).toNat : Nat) : Int) (fun s => s) (fun i1 => (fun (s1 : Bool × (List TPlace)) => M.bind (M.idx x4 i1) (fun x6 => M.bind (impl_readPlace x6) (fun x7 => M.bind (M.app s1.2 ([x7.1] : List TPlace)) (fun l1 => M.ret (.inl ((s1.1 && x7.2), l1))))))) (x3.2, [])) (fun x5 => M.bind (M.ite (!x5.1) (M.ret true) (M.bind (impl_IsEventGraph (⟨x3.1, x5.2⟩ : TGraph)) (fun x10 => M.ret (!x10)))) (fun x9 => M.ite x9 (M.ret ((⟨0, []⟩ : TGraph), false)) (M.ret ((⟨x3.1, x5.2⟩ : TGraph), true))))))))

def spec_l01Split (s_ : ByteArray) (by_ : Int) : M ((List ByteArray)) :=
  M.bind (M.loop (fun (s1 : (List ByteArray) × Int × Int) => M.ite (decide (s1.2.2 ≤ (s_.size : Int))) (M.bind (M.ite (s1.2.2 == (s_.size : Int)) (M.ret true) (M.bind (M.sidx s_ s1.2.2) (fun x3 => M.ret (x3 == by_)))) (fun x2 => M.bind (M.ite x2 (M.bind (M.ssub s_ s1.2.1 s1.2.2) (fun x4 => M.bind (M.app s1.1 ([x4] : List ByteArray)) (fun l1 => M.ret (l1, (w64 (s1.2.2 + 1)))))) (M.ret (s1.1, s1.2.1))) (fun (s2 : (List ByteArray) × Int) => M.ret (.inl (s2.1, s2.2, (w64 (s1.2.2 + 1))))))) (M.ret (.inr (s1.1, s1.2.1, s1.2.2)))) (([] : List ByteArray), 0, 0)) (fun x1 => M.ret x1.1)

def spec_l01Digits (s_ : ByteArray) : M (Int × Bool) :=
  M.ite ((decide ((s_.size : Int) < 1)) || (decide (10 < (s_.size : Int)))) (M.ret (0, false)) (M.bind (M.forI 0 (s_.size : Int) (fun s => .inl s) (fun i1 => (fun (s1 : Int) => M.bind (M.sidx s_ i1) (fun x3 => M.bind (M.ite (decide (x3 < 48)) (M.ret true) (M.bind (M.sidx s_ i1) (fun x5 => M.ret (decide (57 < x5))))) (fun x4 => M.ite x4 (M.ret (.inr (.inr (0, false)))) (M.bind (M.sidx s_ i1) (fun x6 => M.ret (.inl (w64 ((w64 (10 * s1)) + (w64 (IntKind.u8.wrap (x6 - 48)))))))))))) 0) (fun x2 => M.cont x2 (fun s2 => M.bind (spec_l01Dec s2) (fun x7 => M.ret (s2, (x7.toList == s_.toList)))) (fun r => M.ret r)))

def spec_l01Signed (s_ : ByteArray) : M (Int × Bool) :=
  M.bind (M.ite (decide (0 < (s_.size : Int))) (M.bind (M.sidx s_ 0) (fun x2 => M.ret (x2 == 45))) (M.ret false)) (fun x1 => M.ite x1 (M.bind (M.ssub s_ 1 (s_.size : Int)) (fun x3 => M.bind (spec_l01Digits x3) (fun x4 => M.ret ((w64 (0 - x4.1)), (x4.2 && (decide (0 < x4.1))))))) (M.bind (spec_l01Digits s_) (fun x6 => M.ret (x6.1, x6.2))))

def spec_l01Numbers (words : List ByteArray) : M ((List Int) × Bool) :=
  M.bind (M.forI 0 (words.length : Int) (fun s => .inl s) (fun i1 => (fun (s1 : (List Int)) => M.bind (M.idx words i1) (fun x2 => M.bind (spec_l01Signed x2) (fun x3 => M.ite (!x3.2) (M.ret (.inr (.inr (([] : List Int), false)))) (M.bind (M.app s1 ([x3.1] : List Int)) (fun l1 => M.ret (.inl l1))))))) ([] : List Int)) (fun x1 => M.cont x1 (fun s2 => M.ret (s2, true)) (fun r => M.ret r))

def spec_l11Read (s_ : ByteArray) : M (TPlace × Bool) :=
  M.bind (spec_l01Split s_ 62) (fun x1 => M.ite ((x1.length : Int) != 2) (M.ret ((⟨0, 0, 0, 0⟩ : TPlace), false)) (M.bind (M.idx x1 1) (fun x2 => M.bind (spec_l01Split x2 58) (fun x3 => M.ite ((x3.length : Int) != 2) (M.ret ((⟨0, 0, 0, 0⟩ : TPlace), false)) (M.bind (M.bind (M.idx x1 0) (fun x7 => M.bind (M.idx x3 0) (fun x8 => M.bind (M.idx x3 1) (fun x9 => M.bind (spec_l01Split x9 42) (fun x10 => M.bind (M.app ([x7, x8] : List ByteArray) x10) (fun l1 => M.bind (spec_l01Numbers l1) (fun x11 => M.ret (x11.1, x11.2)))))))) (fun (s1 : (List Int) × Bool) => M.ite ((!s1.2) || ((s1.1.length : Int) != 4)) (M.ret ((⟨0, 0, 0, 0⟩ : TPlace), false)) (M.bind (M.idx s1.1 0) (fun x15 => M.bind (M.idx s1.1 1) (fun x16 => M.bind (M.idx s1.1 2) (fun x17 => M.bind (M.idx s1.1 3) (fun x18 => M.ret ((⟨x15, x16, x17, x18⟩ : TPlace), true))))))))))))

def spec_ReadGraph (s_ : ByteArray) : M (TGraph × Bool) :=
  M.bind (spec_l01Split s_ 32) (fun x1 => M.bind (M.idx x1 0) (fun x2 => M.bind (spec_l01Digits x2) (fun x3 => M.bind (M.forI 1 (x1.length : Int) (fun s => s) (fun i1 => (fun (s1 : Bool × (List TPlace)) => M.bind (M.idx x1 i1) (fun x5 => M.bind (spec_l11Read x5) (fun x6 => M.bind (M.app s1.2 ([x6.1] : List TPlace)) (fun l1 => M.ret (.inl ((s1.1 && x6.2), l1))))))) (x3.2, ([] : List TPlace))) (fun x4 => M.bind (M.ite (!x4.1) (M.ret true) (M.bind (spec_IsEventGraph (⟨x3.1, x4.2⟩ : TGraph)) (fun x9 => M.ret (!x9)))) (fun x8 => M.ite x8 (M.ret ((⟨0, []⟩ : TGraph), false)) (M.ret ((⟨x3.1, x4.2⟩ : TGraph), true)))))))

def laws_FnExactReadGraph (aS : ByteArray) : M Bool :=
  M.ite (decide (1048576 < (aS.size : Int))) (M.ret true) (M.bind (spec_ReadGraph aS) (fun x1 => M.bind (impl_ReadGraph aS) (fun x2 => M.bind (laws_eqEventGraph x2.1 x1.1) (fun x3 => M.ite ((!x3) || (!(x2.2 == x1.2))) (M.ret false) (M.bind (laws_markEventGraph x2.1 1) (fun x5 => M.bind (laws_heldEventGraph (⟨x2.1.Events, x5.2⟩ : TGraph) 1) (fun x6 => M.ite (decide (x6 < 0)) (M.ret false) (M.ite (x6 != x5.1) (M.ret false) (M.bind (impl_ReadGraph aS) (fun x7 => M.bind (laws_eqEventGraph x7.1 x1.1) (fun x8 => M.ite ((!x8) || (!(x7.2 == x1.2))) (M.ret false) (M.bind (laws_heldEventGraph (⟨x2.1.Events, x5.2⟩ : TGraph) 1) (fun x10 => M.ite (decide (x10 < 0)) (M.ret false) (M.ite (x10 != x5.1) (M.ret false) (M.ret true)))))))))))))))

end Go.Proofs.YtfhphkiggdepaaaDoor
