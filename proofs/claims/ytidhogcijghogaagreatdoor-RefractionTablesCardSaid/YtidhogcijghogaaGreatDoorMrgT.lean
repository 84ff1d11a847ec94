/- Several texts in one: TrgS, TrgV, TrgB, TrgM, TrgD, TrgT, TrgU, TrgE. -/
import Derived.Test.YtidhogcijghogaaGreatDoorSpecW
import Derived.Test.YtidhogcijghogaaGreatDoorBase
import Derived.Test.YtidhogcijghogaaGreatDoorCtD
import Derived.Laws.Externs
/- What the functions of the program's numbers with 256 digits answer. -/
namespace Go.Proofs.YtidhogcijghogaaGreatDoor
open Go Go.Abs Go.RowKit
set_option linter.unusedVariables false
/-- A number: its four words. -/
abbrev vN (a b c d : Int) : Value := .agg ⟨[.int .u64 a, .int .u64 b, .int .u64 c, .int .u64 d]⟩
def nval (a b c d : Int) : Int := a * 6277101735386680763835789423207666416102355444464034512896 + b * 340282366920938463463374607431768211456 + c * 18446744073709551616 + d
def U4 (a b c d : Int) : Prop := U64 a ∧ U64 b ∧ U64 c ∧ U64 d
def Bit (c : Int) : Prop := c = 0 ∨ c = 1
/-- The first word of a product is less than the greatest word. -/
def MulR (x y h l : Int) : Prop := U64 h ∧ U64 l ∧ h < 18446744073709551615 ∧ x * y = h * 18446744073709551616 + l ∧ 0 ≤ x * y ∧ x * y ≤ 340282366920938463426481119284349108225
def AddR (x y c s d : Int) : Prop := U64 s ∧ Bit d ∧ x + y + c = d * 18446744073709551616 + s
def SubR (x y c s d : Int) : Prop := U64 s ∧ Bit d ∧ x - y - c = s - d * 18446744073709551616
def DivR (h l y q r : Int) : Prop := U64 q ∧ 0 ≤ r ∧ r < y ∧ h * 18446744073709551616 + l = q * y + r
def qMul64 : QSpec := fun | [.int .u64 x, .int .u64 y] => some (U64 x ∧ U64 y, fun K => ∀ h l, MulR x y h l → K (pair (.int .u64 h) (.int .u64 l))) | _ => none
def eAdd64 : QSpec := fun | [.int .u64 x, .int .u64 y, .int .u64 c] => some (U64 x ∧ U64 y ∧ Bit c, fun K => ∀ s d, AddR x y c s d → K (pair (.int .u64 s) (.int .u64 d))) | _ => none
def eSub64 : QSpec := fun | [.int .u64 x, .int .u64 y, .int .u64 c] => some (U64 x ∧ U64 y ∧ Bit c, fun K => ∀ s d, SubR x y c s d → K (pair (.int .u64 s) (.int .u64 d))) | _ => none
def qDiv64 : QSpec := fun | [.int .u64 h, .int .u64 l, .int .u64 y] => some (U64 h ∧ U64 l ∧ U64 y ∧ h < y, fun K => ∀ q r, DivR h l y q r → K (pair (.int .u64 q) (.int .u64 r))) | _ => none
def ΓTs : List (FuncId × CSpec) := [(119, .e eSub64)]
def ΓTm : List (FuncId × CSpec) := [(117, .e eAdd64), (80, .q qMul64)]
def ΓTd : List (FuncId × CSpec) := [(99, .q qDiv64)]
def four : FuncId → List (Nat × LoopBy) := fun _ => [(0, .times 5)]
/-- The weight of a place. -/
def wt : Int → Int | 3 => 340282366920938463463374607431768211456 | 2 => 6277101735386680763835789423207666416102355444464034512896 | 1 => 115792089237316195423570985008687907853269984665640564039457584007913129639936 | _ => 2135987035920910082395021706169552114602704522356652769947041607822219725780640550022962086936576
def six (a b c d e f : Int) : Int := a * 2135987035920910082395021706169552114602704522356652769947041607822219725780640550022962086936576 + b * 115792089237316195423570985008687907853269984665640564039457584007913129639936 + c * 6277101735386680763835789423207666416102355444464034512896 + d * 340282366920938463463374607431768211456 + e * 18446744073709551616 + f
structure Six where
  a : Int
  b : Int
  c : Int
  d : Int
  e : Int
  f : Int
  g : Int
structure SixR (i A B C D E F G a b c d e f g : Int) : Prop where
  ua : U64 a
  ub : U64 b
  uc : U64 c
  ud : U64 d
  ue : U64 e
  uf : U64 f
  ug : U64 g
  sum : ∃ k, 0 ≤ k ∧ six a b c d e f + k * 39402006196394479212279040100143613805079739270465446667948293404245721771497210611414266254884915640806627990306816 = six A B C D E F + G * wt i
/-- Behind the loop that hands a carry on. -/
def joinMul : Ann where
  σ := Six
  st := fun s x => ⟨lset (keepA s 87 [2, 3, 4, 5, 6]) 7 (.v (.int .u64 x.g)), setCs s 3 [.v (.int .u64 x.a), .v (.int .u64 x.b), .v (.int .u64 x.c), .v (.int .u64 x.d), .v (.int .u64 x.e), .v (.int .u64 x.f)]⟩
  inv := fun s x => SixR (intA s 6) (cellI s 3 0) (cellI s 3 1) (cellI s 3 2) (cellI s 3 3) (cellI s 3 4) (cellI s 3 5) (intA s 7) x.a x.b x.c x.d x.e x.f x.g
  μ := fun _ _ => 0
def AMul : FuncId → List (Nat × LoopBy) := fun _ => [(0, .times 5), (2, .times 5), (4, .timesJ 5 joinMul)]
end Go.Proofs.YtidhogcijghogaaGreatDoor

/- What the functions of the program's numbers with 256 digits ask. -/
namespace Go.Proofs.YtidhogcijghogaaGreatDoor
open Go Go.Abs Go.RowKit
set_option linter.unusedVariables false
set_option linter.unusedSimpArgs false
theorem vc_trsub (a b c d x y z u : Int) (K : Value → Prop) : callsX Tryz.prog (ΓTs) (four) 93 [vN a b c d, vN x y z u] K = (
 (U64 d ∧ U64 u ∧ Bit 0) ∧ ∀ (s d_1 : Int), SubR d u 0 s d_1 → (U64 c ∧ U64 z ∧ Bit d_1) ∧ ∀ (s_1 d : Int), SubR c z d_1 s_1 d → (U64 b ∧ U64 y ∧ Bit d) ∧ ∀ (s_2 d_2 : Int), SubR b y d s_2 d_2 → (U64 a ∧ U64 x ∧ Bit d_2) ∧ ∀ (s_3 d : Int), SubR a x d_2 s_3 d → K (Value.agg #[Value.int IntKind.u64 s_3, Value.int IntKind.u64 s_2, Value.int IntKind.u64 s_1, Value.int IntKind.u64 s])) := by kernel_rfl
theorem vc_trdiv (a b c d t y : Int) (K : Value → Prop) : callsX Tryz.prog (ΓTd) (four) 118 [vN a b c d, .int .u64 t, .int .u64 y] K = (
 (U64 t ∧ U64 a ∧ U64 y ∧ t < y) ∧
 ∀ (q r : Int), DivR t a y q r → (U64 r ∧ U64 b ∧ U64 y ∧ r < y) ∧ ∀ (q_1 r_1 : Int), DivR r b y q_1 r_1 → (U64 r_1 ∧ U64 c ∧ U64 y ∧ r_1 < y) ∧ ∀ (q_2 r : Int), DivR r_1 c y q_2 r → (U64 r ∧ U64 d ∧ U64 y ∧ r < y) ∧ ∀ (q_3 r_2 : Int), DivR r d y q_3 r_2 → K (Value.agg #[Value.int IntKind.u64 q, Value.int IntKind.u64 q_1, Value.int IntKind.u64 q_2, Value.int IntKind.u64 q_3])) := by kernel_rfl
theorem vc_trmul (a b c d x y z u : Int) (K : Value → Prop) : callsX Tryz.prog (ΓTm) (AMul) 94 [vN a b c d, vN x y z u] K = (
 (U64 d ∧ U64 y) ∧
 ∀ (h l : Int),
 MulR d y h l →
 (U64 0 ∧ U64 l ∧ Bit 0) ∧
 ∀ (s d_1 : Int),
 AddR 0 l 0 s d_1 →
 (U64 s ∧ U64 0 ∧ Bit 0) ∧
 ∀ (s_1 d_2 : Int),
 AddR s 0 0 s_1 d_2 →
 (U64 d ∧ U64 x) ∧
 ∀ (h_4 l : Int),
 MulR d x h_4 l →
 (U64 0 ∧ U64 l ∧ Bit 0) ∧
 ∀ (s d_3 : Int),
 AddR 0 l 0 s d_3 →
 (U64 s ∧ U64 (IntKind.u64.wrap (IntKind.u64.wrap (h + d_1) + d_2)) ∧ Bit 0) ∧
 ∀ (s_2 d_4 : Int),
 AddR s (IntKind.u64.wrap (IntKind.u64.wrap (h + d_1) + d_2)) 0 s_2 d_4 →
 (∀ (s : Six),
 SixR 3 0 0 0 0 s_2 s_1 (IntKind.u64.wrap (IntKind.u64.wrap (h_4 + d_3) + d_4)) s.1 s.2 s.3 s.4 s.5 s.6 s.7 →
 (U64 c ∧ U64 z) ∧
 ∀ (h l : Int),
 MulR c z h l →
 (U64 s.6 ∧ U64 l ∧ Bit 0) ∧
 ∀ (s_3 d_5 : Int),
 AddR s.6 l 0 s_3 d_5 →
 (U64 s_3 ∧ U64 0 ∧ Bit 0) ∧
 ∀ (s_4 d_6 : Int),
 AddR s_3 0 0 s_4 d_6 →
 (U64 c ∧ U64 y) ∧
 ∀ (h_10 l : Int),
 MulR c y h_10 l →
 (U64 s.5 ∧ U64 l ∧ Bit 0) ∧
 ∀ (s_5 d_7 : Int),
 AddR s.5 l 0 s_5 d_7 →
 (U64 s_5 ∧ U64 (IntKind.u64.wrap (IntKind.u64.wrap (h + d_5) + d_6)) ∧ Bit 0) ∧
 ∀ (s_6 d_8 : Int),
 AddR s_5 (IntKind.u64.wrap (IntKind.u64.wrap (h + d_5) + d_6)) 0 s_6 d_8 →
 (U64 c ∧ U64 x) ∧
 ∀ (h l : Int),
 MulR c x h l →
 (U64 s.4 ∧ U64 l ∧ Bit 0) ∧
 ∀ (s_7 d_9 : Int),
 AddR s.4 l 0 s_7 d_9 →
 (U64 s_7 ∧ U64 (IntKind.u64.wrap (IntKind.u64.wrap (h_10 + d_7) + d_8)) ∧ Bit 0) ∧
 ∀ (s_8 d_10 : Int),
 AddR s_7 (IntKind.u64.wrap (IntKind.u64.wrap (h_10 + d_7) + d_8)) 0 s_8 d_10 →
 (∀ (s_9 : Six),
 SixR (IntKind.i64.wrap (3 - 1)) s.1 s.2 s.3 s_8 s_6 s_4 (IntKind.u64.wrap (IntKind.u64.wrap (h + d_9) + d_10)) s_9.1 s_9.2 s_9.3 s_9.4 s_9.5 s_9.6 s_9.7 →
 (U64 b ∧ U64 u) ∧
 ∀ (h l : Int),
 MulR b u h l →
 (U64 s_9.6 ∧ U64 l ∧ Bit 0) ∧
 ∀ (s d_11 : Int),
 AddR s_9.6 l 0 s d_11 →
 (U64 s ∧ U64 0 ∧ Bit 0) ∧
 ∀ (s_10 d_12 : Int),
 AddR s 0 0 s_10 d_12 →
 (U64 b ∧ U64 z) ∧
 ∀ (h_19 l : Int),
 MulR b z h_19 l →
 (U64 s_9.5 ∧ U64 l ∧ Bit 0) ∧
 ∀ (s d_13 : Int),
 AddR s_9.5 l 0 s d_13 →
 (U64 s ∧ U64 (IntKind.u64.wrap (IntKind.u64.wrap (h + d_11) + d_12)) ∧ Bit 0) ∧
 ∀ (s_11 d_14 : Int),
 AddR s (IntKind.u64.wrap (IntKind.u64.wrap (h + d_11) + d_12)) 0 s_11 d_14 →
 (U64 b ∧ U64 y) ∧
 ∀ (h l : Int),
 MulR b y h l →
 (U64 s_9.4 ∧ U64 l ∧ Bit 0) ∧
 ∀ (s d_15 : Int),
 AddR s_9.4 l 0 s d_15 →
 (U64 s ∧ U64 (IntKind.u64.wrap (IntKind.u64.wrap (h_19 + d_13) + d_14)) ∧ Bit 0) ∧
 ∀ (s_12 d_16 : Int),
 AddR s (IntKind.u64.wrap (IntKind.u64.wrap (h_19 + d_13) + d_14)) 0 s_12 d_16 →
 (U64 b ∧ U64 x) ∧
 ∀ (h_25 l : Int),
 MulR b x h_25 l →
 (U64 s_9.3 ∧ U64 l ∧ Bit 0) ∧
 ∀ (s d_17 : Int),
 AddR s_9.3 l 0 s d_17 →
 (U64 s ∧ U64 (IntKind.u64.wrap (IntKind.u64.wrap (h + d_15) + d_16)) ∧ Bit 0) ∧
 ∀ (s_13 d_18 : Int),
 AddR s (IntKind.u64.wrap (IntKind.u64.wrap (h + d_15) + d_16)) 0 s_13 d_18 →
 (∀ (s : Six),
 SixR (IntKind.i64.wrap (IntKind.i64.wrap (3 - 1) - 1)) s_9.1 s_9.2 s_13 s_12 s_11 s_10 (IntKind.u64.wrap (IntKind.u64.wrap (h_25 + d_17) + d_18)) s.1 s.2 s.3 s.4 s.5 s.6 s.7 →
 (U64 a ∧ U64 u) ∧
 ∀ (h l : Int),
 MulR a u h l →
 (U64 s.5 ∧ U64 l ∧ Bit 0) ∧
 ∀ (s_14 d_19 : Int),
 AddR s.5 l 0 s_14 d_19 →
 (U64 s_14 ∧ U64 0 ∧ Bit 0) ∧
 ∀ (s_15 d_20 : Int),
 AddR s_14 0 0 s_15 d_20 →
 (U64 a ∧ U64 z) ∧
 ∀ (h_31 l : Int),
 MulR a z h_31 l →
 (U64 s.4 ∧ U64 l ∧ Bit 0) ∧
 ∀ (s_16 d_21 : Int),
 AddR s.4 l 0 s_16 d_21 →
 (U64 s_16 ∧ U64 (IntKind.u64.wrap (IntKind.u64.wrap (h + d_19) + d_20)) ∧ Bit 0) ∧
 ∀ (s_17 d_22 : Int),
 AddR s_16 (IntKind.u64.wrap (IntKind.u64.wrap (h + d_19) + d_20)) 0 s_17 d_22 →
 (U64 a ∧ U64 y) ∧
 ∀ (h l : Int),
 MulR a y h l →
 (U64 s.3 ∧ U64 l ∧ Bit 0) ∧
 ∀ (s_18 d_23 : Int),
 AddR s.3 l 0 s_18 d_23 →
 (U64 s_18 ∧ U64 (IntKind.u64.wrap (IntKind.u64.wrap (h_31 + d_21) + d_22)) ∧ Bit 0) ∧
 ∀ (s_19 d_24 : Int),
 AddR s_18 (IntKind.u64.wrap (IntKind.u64.wrap (h_31 + d_21) + d_22)) 0 s_19 d_24 →
 (U64 a ∧ U64 x) ∧
 ∀ (h_37 l : Int),
 MulR a x h_37 l →
 (U64 s.2 ∧ U64 l ∧ Bit 0) ∧
 ∀ (s_20 d_25 : Int),
 AddR s.2 l 0 s_20 d_25 →
 (U64 s_20 ∧ U64 (IntKind.u64.wrap (IntKind.u64.wrap (h + d_23) + d_24)) ∧ Bit 0) ∧
 ∀ (s_21 d_26 : Int),
 AddR s_20 (IntKind.u64.wrap (IntKind.u64.wrap (h + d_23) + d_24)) 0 s_21 d_26 →
 (∀ (s_22 : Six), SixR (IntKind.i64.wrap (IntKind.i64.wrap (IntKind.i64.wrap (3 - 1) - 1) - 1)) s.1 s_21 s_19 s_17 s_15 s.6 (IntKind.u64.wrap (IntKind.u64.wrap (h_37 + d_25) + d_26)) s_22.1 s_22.2 s_22.3 s_22.4 s_22.5 s_22.6 s_22.7 → K (Value.agg #[Value.int IntKind.u64 s_22.1, Value.int IntKind.u64 s_22.2, Value.int IntKind.u64 s_22.3, Value.int IntKind.u64 s_22.4])) ∧
 bcase (decide (IntKind.u64.wrap (IntKind.u64.wrap (h_37 + d_25) + d_26) > 0))
 ((U64 s.1 ∧ U64 (IntKind.u64.wrap (IntKind.u64.wrap (h_37 + d_25) + d_26)) ∧ Bit 0) ∧
 ∀ (s_22 d_27 : Int),
 AddR s.1 (IntKind.u64.wrap (IntKind.u64.wrap (h_37 + d_25) + d_26)) 0 s_22 d_27 →
 ∃ (s_23 : Six),
 (IntKind.i64.wrap (IntKind.i64.wrap (IntKind.i64.wrap (3 - 1) - 1) - 1) = IntKind.i64.wrap (IntKind.i64.wrap (IntKind.i64.wrap (3 - 1) - 1) - 1) ∧
 d_27 = s_23.7 ∧ a = a ∧ b = b ∧ c = c ∧ d = d ∧ x = x ∧ y = y ∧ z = z ∧ u = u ∧ Int.ofNat 0 = 0 ∧ Int.ofNat 0 = 0 ∧ Int.ofNat 0 = 0 ∧ Int.ofNat 0 = 0 ∧ s_22 = s_23.1 ∧ s_21 = s_23.2 ∧ s_19 = s_23.3 ∧ s_17 = s_23.4 ∧ s_15 = s_23.5 ∧ s.6 = s_23.6 ∧ True) ∧
 SixR (IntKind.i64.wrap (IntKind.i64.wrap (IntKind.i64.wrap (3 - 1) - 1) - 1)) s.1 s_21 s_19 s_17 s_15 s.6 (IntKind.u64.wrap (IntKind.u64.wrap (h_37 + d_25) + d_26)) s_23.1 s_23.2 s_23.3 s_23.4 s_23.5 s_23.6 s_23.7)
 (∃ (s_22 : Six),
 (IntKind.i64.wrap (IntKind.i64.wrap (IntKind.i64.wrap (3 - 1) - 1) - 1) = IntKind.i64.wrap (IntKind.i64.wrap (IntKind.i64.wrap (3 - 1) - 1) - 1) ∧
 IntKind.u64.wrap (IntKind.u64.wrap (h_37 + d_25) + d_26) = s_22.7 ∧ a = a ∧ b = b ∧ c = c ∧ d = d ∧ x = x ∧ y = y ∧ z = z ∧ u = u ∧ Int.ofNat 0 = 0 ∧ Int.ofNat 0 = 0 ∧ Int.ofNat 0 = 0 ∧ Int.ofNat 0 = 0 ∧ s.1 = s_22.1 ∧ s_21 = s_22.2 ∧ s_19 = s_22.3 ∧ s_17 = s_22.4 ∧ s_15 = s_22.5 ∧ s.6 = s_22.6 ∧ True) ∧
 SixR (IntKind.i64.wrap (IntKind.i64.wrap (IntKind.i64.wrap (3 - 1) - 1) - 1)) s.1 s_21 s_19 s_17 s_15 s.6 (IntKind.u64.wrap (IntKind.u64.wrap (h_37 + d_25) + d_26)) s_22.1 s_22.2 s_22.3 s_22.4 s_22.5 s_22.6 s_22.7)) ∧
 bcase (decide (IntKind.u64.wrap (IntKind.u64.wrap (h_25 + d_17) + d_18) > 0))
 ((U64 s_9.2 ∧ U64 (IntKind.u64.wrap (IntKind.u64.wrap (h_25 + d_17) + d_18)) ∧ Bit 0) ∧
 ∀ (s d_19 : Int),
 AddR s_9.2 (IntKind.u64.wrap (IntKind.u64.wrap (h_25 + d_17) + d_18)) 0 s d_19 →
 bcase (decide (d_19 > 0))
 ((U64 s_9.1 ∧ U64 d_19 ∧ Bit 0) ∧
 ∀ (s_14 d_20 : Int),
 AddR s_9.1 d_19 0 s_14 d_20 →
 ∃ (s_15 : Six),
 (IntKind.i64.wrap (IntKind.i64.wrap (3 - 1) - 1) = IntKind.i64.wrap (IntKind.i64.wrap (3 - 1) - 1) ∧ d_20 = s_15.7 ∧ a = a ∧ b = b ∧ c = c ∧ d = d ∧ x = x ∧ y = y ∧ z = z ∧ u = u ∧ Int.ofNat 0 = 0 ∧ Int.ofNat 0 = 0 ∧ Int.ofNat 0 = 0 ∧ Int.ofNat 0 = 0 ∧ s_14 = s_15.1 ∧ s = s_15.2 ∧ s_13 = s_15.3 ∧ s_12 = s_15.4 ∧ s_11 = s_15.5 ∧ s_10 = s_15.6 ∧ True) ∧
 SixR (IntKind.i64.wrap (IntKind.i64.wrap (3 - 1) - 1)) s_9.1 s_9.2 s_13 s_12 s_11 s_10 (IntKind.u64.wrap (IntKind.u64.wrap (h_25 + d_17) + d_18)) s_15.1 s_15.2 s_15.3 s_15.4 s_15.5 s_15.6 s_15.7)
 (∃ (s_14 : Six),
 (IntKind.i64.wrap (IntKind.i64.wrap (3 - 1) - 1) = IntKind.i64.wrap (IntKind.i64.wrap (3 - 1) - 1) ∧ d_19 = s_14.7 ∧ a = a ∧ b = b ∧ c = c ∧ d = d ∧ x = x ∧ y = y ∧ z = z ∧ u = u ∧ Int.ofNat 0 = 0 ∧ Int.ofNat 0 = 0 ∧ Int.ofNat 0 = 0 ∧ Int.ofNat 0 = 0 ∧ s_9.1 = s_14.1 ∧ s = s_14.2 ∧ s_13 = s_14.3 ∧ s_12 = s_14.4 ∧ s_11 = s_14.5 ∧ s_10 = s_14.6 ∧ True) ∧
 SixR (IntKind.i64.wrap (IntKind.i64.wrap (3 - 1) - 1)) s_9.1 s_9.2 s_13 s_12 s_11 s_10 (IntKind.u64.wrap (IntKind.u64.wrap (h_25 + d_17) + d_18)) s_14.1 s_14.2 s_14.3 s_14.4 s_14.5 s_14.6 s_14.7))
 (∃ (s : Six),
 (IntKind.i64.wrap (IntKind.i64.wrap (3 - 1) - 1) = IntKind.i64.wrap (IntKind.i64.wrap (3 - 1) - 1) ∧ IntKind.u64.wrap (IntKind.u64.wrap (h_25 + d_17) + d_18) = s.7 ∧ a = a ∧ b = b ∧ c = c ∧ d = d ∧ x = x ∧ y = y ∧ z = z ∧ u = u ∧ Int.ofNat 0 = 0 ∧ Int.ofNat 0 = 0 ∧ Int.ofNat 0 = 0 ∧ Int.ofNat 0 = 0 ∧ s_9.1 = s.1 ∧ s_9.2 = s.2 ∧ s_13 = s.3 ∧ s_12 = s.4 ∧ s_11 = s.5 ∧ s_10 = s.6 ∧ True) ∧
 SixR (IntKind.i64.wrap (IntKind.i64.wrap (3 - 1) - 1)) s_9.1 s_9.2 s_13 s_12 s_11 s_10 (IntKind.u64.wrap (IntKind.u64.wrap (h_25 + d_17) + d_18)) s.1 s.2 s.3 s.4 s.5 s.6 s.7)) ∧
 bcase (decide (IntKind.u64.wrap (IntKind.u64.wrap (h + d_9) + d_10) > 0))
 ((U64 s.3 ∧ U64 (IntKind.u64.wrap (IntKind.u64.wrap (h + d_9) + d_10)) ∧ Bit 0) ∧
 ∀ (s_9 d_11 : Int),
 AddR s.3 (IntKind.u64.wrap (IntKind.u64.wrap (h + d_9) + d_10)) 0 s_9 d_11 →
 bcase (decide (d_11 > 0))
 ((U64 s.2 ∧ U64 d_11 ∧ Bit 0) ∧
 ∀ (s_10 d_12 : Int),
 AddR s.2 d_11 0 s_10 d_12 →
 bcase (decide (d_12 > 0))
 ((U64 s.1 ∧ U64 d_12 ∧ Bit 0) ∧
 ∀ (s_11 d_13 : Int),
 AddR s.1 d_12 0 s_11 d_13 →
 ∃ (s_12 : Six),
 (IntKind.i64.wrap (3 - 1) = IntKind.i64.wrap (3 - 1) ∧ d_13 = s_12.7 ∧ a = a ∧ b = b ∧ c = c ∧ d = d ∧ x = x ∧ y = y ∧ z = z ∧ u = u ∧ Int.ofNat 0 = 0 ∧ Int.ofNat 0 = 0 ∧ Int.ofNat 0 = 0 ∧ Int.ofNat 0 = 0 ∧ s_11 = s_12.1 ∧ s_10 = s_12.2 ∧ s_9 = s_12.3 ∧ s_8 = s_12.4 ∧ s_6 = s_12.5 ∧ s_4 = s_12.6 ∧ True) ∧
 SixR (IntKind.i64.wrap (3 - 1)) s.1 s.2 s.3 s_8 s_6 s_4 (IntKind.u64.wrap (IntKind.u64.wrap (h + d_9) + d_10)) s_12.1 s_12.2 s_12.3 s_12.4 s_12.5 s_12.6 s_12.7)
 (∃ (s_11 : Six),
 (IntKind.i64.wrap (3 - 1) = IntKind.i64.wrap (3 - 1) ∧ d_12 = s_11.7 ∧ a = a ∧ b = b ∧ c = c ∧ d = d ∧ x = x ∧ y = y ∧ z = z ∧ u = u ∧ Int.ofNat 0 = 0 ∧ Int.ofNat 0 = 0 ∧ Int.ofNat 0 = 0 ∧ Int.ofNat 0 = 0 ∧ s.1 = s_11.1 ∧ s_10 = s_11.2 ∧ s_9 = s_11.3 ∧ s_8 = s_11.4 ∧ s_6 = s_11.5 ∧ s_4 = s_11.6 ∧ True) ∧
 SixR (IntKind.i64.wrap (3 - 1)) s.1 s.2 s.3 s_8 s_6 s_4 (IntKind.u64.wrap (IntKind.u64.wrap (h + d_9) + d_10)) s_11.1 s_11.2 s_11.3 s_11.4 s_11.5 s_11.6 s_11.7))
 (∃ (s_10 : Six),
 (IntKind.i64.wrap (3 - 1) = IntKind.i64.wrap (3 - 1) ∧ d_11 = s_10.7 ∧ a = a ∧ b = b ∧ c = c ∧ d = d ∧ x = x ∧ y = y ∧ z = z ∧ u = u ∧ Int.ofNat 0 = 0 ∧ Int.ofNat 0 = 0 ∧ Int.ofNat 0 = 0 ∧ Int.ofNat 0 = 0 ∧ s.1 = s_10.1 ∧ s.2 = s_10.2 ∧ s_9 = s_10.3 ∧ s_8 = s_10.4 ∧ s_6 = s_10.5 ∧ s_4 = s_10.6 ∧ True) ∧
 SixR (IntKind.i64.wrap (3 - 1)) s.1 s.2 s.3 s_8 s_6 s_4 (IntKind.u64.wrap (IntKind.u64.wrap (h + d_9) + d_10)) s_10.1 s_10.2 s_10.3 s_10.4 s_10.5 s_10.6 s_10.7))
 (∃ (s_9 : Six),
 (IntKind.i64.wrap (3 - 1) = IntKind.i64.wrap (3 - 1) ∧ IntKind.u64.wrap (IntKind.u64.wrap (h + d_9) + d_10) = s_9.7 ∧ a = a ∧ b = b ∧ c = c ∧ d = d ∧ x = x ∧ y = y ∧ z = z ∧ u = u ∧ Int.ofNat 0 = 0 ∧ Int.ofNat 0 = 0 ∧ Int.ofNat 0 = 0 ∧ Int.ofNat 0 = 0 ∧ s.1 = s_9.1 ∧ s.2 = s_9.2 ∧ s.3 = s_9.3 ∧ s_8 = s_9.4 ∧ s_6 = s_9.5 ∧ s_4 = s_9.6 ∧ True) ∧
 SixR (IntKind.i64.wrap (3 - 1)) s.1 s.2 s.3 s_8 s_6 s_4 (IntKind.u64.wrap (IntKind.u64.wrap (h + d_9) + d_10)) s_9.1 s_9.2 s_9.3 s_9.4 s_9.5 s_9.6 s_9.7)) ∧
 bcase (decide (IntKind.u64.wrap (IntKind.u64.wrap (h_4 + d_3) + d_4) > 0))
 ((U64 0 ∧ U64 (IntKind.u64.wrap (IntKind.u64.wrap (h_4 + d_3) + d_4)) ∧ Bit 0) ∧
 ∀ (s d_5 : Int),
 AddR 0 (IntKind.u64.wrap (IntKind.u64.wrap (h_4 + d_3) + d_4)) 0 s d_5 →
 bcase (decide (d_5 > 0))
 ((U64 0 ∧ U64 d_5 ∧ Bit 0) ∧
 ∀ (s_3 d_6 : Int),
 AddR 0 d_5 0 s_3 d_6 →
 bcase (decide (d_6 > 0))
 ((U64 0 ∧ U64 d_6 ∧ Bit 0) ∧
 ∀ (s_4 d_7 : Int),
 AddR 0 d_6 0 s_4 d_7 →
 bcase (decide (d_7 > 0))
 ((U64 0 ∧ U64 d_7 ∧ Bit 0) ∧
 ∀ (s_5 d_8 : Int),
 AddR 0 d_7 0 s_5 d_8 →
 ∃ (s_6 : Six), (Int.ofNat 3 = 3 ∧ d_8 = s_6.7 ∧ a = a ∧ b = b ∧ c = c ∧ d = d ∧ x = x ∧ y = y ∧ z = z ∧ u = u ∧ Int.ofNat 0 = 0 ∧ Int.ofNat 0 = 0 ∧ Int.ofNat 0 = 0 ∧ Int.ofNat 0 = 0 ∧ s_5 = s_6.1 ∧ s_4 = s_6.2 ∧ s_3 = s_6.3 ∧ s = s_6.4 ∧ s_2 = s_6.5 ∧ s_1 = s_6.6 ∧ True) ∧ SixR 3 0 0 0 0 s_2 s_1 (IntKind.u64.wrap (IntKind.u64.wrap (h_4 + d_3) + d_4)) s_6.1 s_6.2 s_6.3 s_6.4 s_6.5 s_6.6 s_6.7)
 (∃ (s_5 : Six), (Int.ofNat 3 = 3 ∧ d_7 = s_5.7 ∧ a = a ∧ b = b ∧ c = c ∧ d = d ∧ x = x ∧ y = y ∧ z = z ∧ u = u ∧ Int.ofNat 0 = 0 ∧ Int.ofNat 0 = 0 ∧ Int.ofNat 0 = 0 ∧ Int.ofNat 0 = 0 ∧ 0 = s_5.1 ∧ s_4 = s_5.2 ∧ s_3 = s_5.3 ∧ s = s_5.4 ∧ s_2 = s_5.5 ∧ s_1 = s_5.6 ∧ True) ∧ SixR 3 0 0 0 0 s_2 s_1 (IntKind.u64.wrap (IntKind.u64.wrap (h_4 + d_3) + d_4)) s_5.1 s_5.2 s_5.3 s_5.4 s_5.5 s_5.6 s_5.7))
 (∃ (s_4 : Six), (Int.ofNat 3 = 3 ∧ d_6 = s_4.7 ∧ a = a ∧ b = b ∧ c = c ∧ d = d ∧ x = x ∧ y = y ∧ z = z ∧ u = u ∧ Int.ofNat 0 = 0 ∧ Int.ofNat 0 = 0 ∧ Int.ofNat 0 = 0 ∧ Int.ofNat 0 = 0 ∧ 0 = s_4.1 ∧ 0 = s_4.2 ∧ s_3 = s_4.3 ∧ s = s_4.4 ∧ s_2 = s_4.5 ∧ s_1 = s_4.6 ∧ True) ∧ SixR 3 0 0 0 0 s_2 s_1 (IntKind.u64.wrap (IntKind.u64.wrap (h_4 + d_3) + d_4)) s_4.1 s_4.2 s_4.3 s_4.4 s_4.5 s_4.6 s_4.7))
 (∃ (s_3 : Six), (Int.ofNat 3 = 3 ∧ d_5 = s_3.7 ∧ a = a ∧ b = b ∧ c = c ∧ d = d ∧ x = x ∧ y = y ∧ z = z ∧ u = u ∧ Int.ofNat 0 = 0 ∧ Int.ofNat 0 = 0 ∧ Int.ofNat 0 = 0 ∧ Int.ofNat 0 = 0 ∧ 0 = s_3.1 ∧ 0 = s_3.2 ∧ 0 = s_3.3 ∧ s = s_3.4 ∧ s_2 = s_3.5 ∧ s_1 = s_3.6 ∧ True) ∧ SixR 3 0 0 0 0 s_2 s_1 (IntKind.u64.wrap (IntKind.u64.wrap (h_4 + d_3) + d_4)) s_3.1 s_3.2 s_3.3 s_3.4 s_3.5 s_3.6 s_3.7))
 (∃ (s : Six),
 (Int.ofNat 3 = 3 ∧ IntKind.u64.wrap (IntKind.u64.wrap (h_4 + d_3) + d_4) = s.7 ∧ a = a ∧ b = b ∧ c = c ∧ d = d ∧ x = x ∧ y = y ∧ z = z ∧ u = u ∧ Int.ofNat 0 = 0 ∧ Int.ofNat 0 = 0 ∧ Int.ofNat 0 = 0 ∧ Int.ofNat 0 = 0 ∧ 0 = s.1 ∧ 0 = s.2 ∧ 0 = s.3 ∧ 0 = s.4 ∧ s_2 = s.5 ∧ s_1 = s.6 ∧ True) ∧ SixR 3 0 0 0 0 s_2 s_1 (IntKind.u64.wrap (IntKind.u64.wrap (h_4 + d_3) + d_4)) s.1 s.2 s.3 s.4 s.5 s.6 s.7)) := by kernel_rfl
end Go.Proofs.YtidhogcijghogaaGreatDoor

/- The program's numbers with 256 digits: words, and the contracts of their differences and quotients. -/
namespace Go.Proofs.YtidhogcijghogaaGreatDoor
open Go Go.Abs Go.RowKit
set_option linter.unusedVariables false
set_option linter.unusedSimpArgs false
theorem bit_lt {c : Int} (h : Bit c) : 0 ≤ c ∧ c ≤ 1 := by rcases h with rfl | rfl <;> decide
theorem bit_u {c : Int} (h : Bit c) : U64 c := by rcases h with rfl | rfl <;> exact ⟨by decide, by decide⟩
theorem wrap_u64 {n : Int} (h : 0 ≤ n ∧ n < 18446744073709551616) : IntKind.u64.wrap n = n := by
  show n % 18446744073709551616 = n
  omega
/-- The number with a value. -/
abbrev vNat (n : Int) : Value := vN (n / 6277101735386680763835789423207666416102355444464034512896) (n / 340282366920938463463374607431768211456 % 18446744073709551616) (n / 18446744073709551616 % 18446744073709551616) (n % 18446744073709551616)
theorem vNat_nval {a b c d : Int} (h : U4 a b c d) : vNat (nval a b c d) = vN a b c d := by
  obtain ⟨⟨a0, a1⟩, ⟨b0, b1⟩, ⟨c0, c1⟩, d0, d1⟩ := h
  have e1 : nval a b c d / 6277101735386680763835789423207666416102355444464034512896 = a := by unfold nval; omega
  have e2 : nval a b c d / 340282366920938463463374607431768211456 % 18446744073709551616 = b := by unfold nval; omega
  have e3 : nval a b c d / 18446744073709551616 % 18446744073709551616 = c := by unfold nval; omega
  have e4 : nval a b c d % 18446744073709551616 = d := by unfold nval; omega
  unfold vNat
  rw [e1, e2, e3, e4]
theorem nval_lt {a b c d : Int} (h : U4 a b c d) : 0 ≤ nval a b c d ∧ nval a b c d < 115792089237316195423570985008687907853269984665640564039457584007913129639936 := by
  obtain ⟨⟨a0, a1⟩, ⟨b0, b1⟩, ⟨c0, c1⟩, d0, d1⟩ := h
  unfold nval
  omega
/-- The words of a number. -/
theorem words {n : Int} (h0 : 0 ≤ n) (h1 : n < 115792089237316195423570985008687907853269984665640564039457584007913129639936) : ∃ a b c d, U4 a b c d ∧ nval a b c d = n := by
  refine ⟨n / 6277101735386680763835789423207666416102355444464034512896, n / 340282366920938463463374607431768211456 % 18446744073709551616, n / 18446744073709551616 % 18446744073709551616, n % 18446744073709551616, ⟨⟨?_, ?_⟩, ⟨?_, ?_⟩, ⟨?_, ?_⟩, ?_, ?_⟩, ?_⟩
  all_goals (try unfold nval); omega
theorem mul_end {a b c d e f P k : Int} (h : U4 a b c d) (he : U64 e) (hf : U64 f) (hk : 0 ≤ k) (hs : six a b c d e f + k * 39402006196394479212279040100143613805079739270465446667948293404245721771497210611414266254884915640806627990306816 = P) (hP : P < 39402006196394479212279040100143613805079739270465446667948293404245721771497210611414266254884915640806627990306816) :
    vNat (P / 340282366920938463463374607431768211456) = vN a b c d := by
  have e1 : P / 340282366920938463463374607431768211456 = nval a b c d := by
    obtain ⟨⟨a0, a1⟩, ⟨b0, b1⟩, ⟨c0, c1⟩, d0, d1⟩ := h
    obtain ⟨e0, e1⟩ := he
    obtain ⟨f0, f1⟩ := hf
    unfold six at hs
    unfold nval
    omega
  rw [e1, vNat_nval h]
variable {Φ : World → Prop}
theorem h_add (hΦ : True) : ∀ args p Q, eAdd64 args = some (p, Q) → p → ∀ K, Q K → ∃ v, K v ∧ ∀ w, (callFunc 117 args.toArray).run Tryz.prog w = .ok (.value v) w := by
  intro args p Q h hp K hK
  unfold eAdd64 at h
  split at h <;> cases h
  rename_i x y c
  obtain ⟨⟨x0, x1⟩, ⟨y0, y1⟩, hc⟩ := hp
  have hc := bit_lt hc
  refine ⟨_, hK ((x + y + c) % 18446744073709551616) ((x + y + c) / 18446744073709551616) ⟨⟨by omega, by omega⟩, ?_, by omega⟩, fun w => ?_⟩
  · unfold Bit; omega
  · rw [run_callFunc_extern Tryz.func117 (by kernel_rfl) (by kernel_rfl) (by kernel_rfl) (e := add64Entry) (by kernel_rfl)]
    rw [show ([Value.int .u64 x, .int .u64 y, .int .u64 c] : List Value).toArray = #[.int .u64 x, .int .u64 y, .int .u64 c] from rfl, run_add64 x y c x0 y0 hc.1 hc.2]
    rfl
/-- The model's entry of Sub64. -/
def subEntry : Array Value → Sem Value := fun args => do
  let (x, y, b) ← Extern.MathBitsCarry.three "Sub64" args
  pure (Extern.MathBitsCarry.pair ((x + Extern.MathBitsCarry.m64 - y - b) % Extern.MathBitsCarry.m64) (if x < y + b then 1 else 0))
theorem run_subE (x y b : Nat) (hb : b ≤ 1) (w : World) :
    (subEntry #[.int .u64 x, .int .u64 y, .int .u64 b]).run Tryz.prog w =
      .ok (.tuple #[.int .u64 (((x + 18446744073709551616 - y - b) % 18446744073709551616 : Nat) : Int), .int .u64 ((if x < y + b then 1 else 0 : Nat) : Int)]) w := by
  have : b = 0 ∨ b = 1 := by omega
  rcases this with rfl | rfl <;> rfl
theorem h_sub (hΦ : True) : ∀ args p Q, eSub64 args = some (p, Q) → p → ∀ K, Q K → ∃ v, K v ∧ ∀ w, (callFunc 119 args.toArray).run Tryz.prog w = .ok (.value v) w := by
  intro args p Q h hp K hK
  unfold eSub64 at h
  split at h <;> cases h
  rename_i x y c
  obtain ⟨⟨x0, x1⟩, ⟨y0, y1⟩, hc⟩ := hp
  have hc := bit_lt hc
  obtain ⟨x, rfl⟩ := Int.eq_ofNat_of_zero_le x0
  obtain ⟨y, rfl⟩ := Int.eq_ofNat_of_zero_le y0
  obtain ⟨c, rfl⟩ := Int.eq_ofNat_of_zero_le hc.1
  refine ⟨_, hK (((x + 18446744073709551616 - y - c) % 18446744073709551616 : Nat) : Int) ((if x < y + c then 1 else 0 : Nat) : Int) ⟨⟨by omega, by omega⟩, ?_, ?_⟩, fun w => ?_⟩
  · unfold Bit; split <;> simp
  · split <;> omega
  · rw [run_callFunc_extern Tryz.func119 (by kernel_rfl) (by kernel_rfl) (by kernel_rfl) (e := subEntry) (by kernel_rfl)]
    rw [show ([Value.int .u64 (x : Int), .int .u64 (y : Int), .int .u64 (c : Int)] : List Value).toArray = #[.int .u64 (x : Int), .int .u64 (y : Int), .int .u64 (c : Int)] from rfl, run_subE x y c (by omega)]
    rfl
variable (hst : ∀ w w', Φ w → Below w.heap.size w w' → Φ w')
include hst
theorem h_mul : ∀ args p Q, qMul64 args = some (p, Q) → p → ∀ K, Q K → ∃ v, Ans Tryz.prog Φ 80 args v ∧ K v := by
  intro args p Q h hp K hK
  unfold qMul64 at h
  split at h <;> cases h
  rename_i x y
  refine ⟨_, c_mul64 hst x y hp.1 hp.2, hK _ _ ?_⟩
  obtain ⟨⟨x0, x1⟩, y0, y1⟩ := hp
  have p0 : 0 ≤ x * y := Int.mul_nonneg x0 y0
  have p1 : x * y ≤ 18446744073709551615 * 18446744073709551615 := Int.mul_le_mul (by omega) (by omega) y0 (by decide)
  unfold MulR U64
  generalize x * y = p at *
  omega
theorem h_div : ∀ args p Q, qDiv64 args = some (p, Q) → p → ∀ K, Q K → ∃ v, Ans Tryz.prog Φ 99 args v ∧ K v := by
  intro args p Q h hp K hK
  unfold qDiv64 at h
  split at h <;> cases h
  rename_i h l y
  refine ⟨_, c_div64 hst h l y hp.1 hp.2.1 hp.2.2.1 hp.2.2.2, hK _ _ ?_⟩
  obtain ⟨⟨h0, h1⟩, ⟨l0, l1⟩, ⟨y0, y1⟩, hy⟩ := hp
  have yp : 0 < y := by omega
  have e := Int.mul_ediv_add_emod (h * 18446744073709551616 + l) y
  have m0 := Int.emod_nonneg (h * 18446744073709551616 + l) (Int.ne_of_gt yp)
  have m1 := Int.emod_lt_of_pos (h * 18446744073709551616 + l) yp
  have q0 : 0 ≤ (h * 18446744073709551616 + l) / y := Int.ediv_nonneg (by omega) y0
  have q1 : (h * 18446744073709551616 + l) / y < 18446744073709551616 := by
    apply Int.ediv_lt_of_lt_mul yp
    have : (h + 1) * 18446744073709551616 ≤ y * 18446744073709551616 := Int.mul_le_mul_of_nonneg_right (by omega) (by decide)
    rw [Int.mul_comm 18446744073709551616]
    omega
  refine ⟨⟨q0, q1⟩, m0, m1, ?_⟩
  rw [Int.mul_comm ((h * 18446744073709551616 + l) / y)]
  exact e.symm
theorem s_Tm : Sound Tryz.prog Φ ΓTm := Sound.econs (h_add trivial) (Sound.qcons (by kernel_rfl) (h_mul hst) Sound.nil)
theorem s_Td : Sound Tryz.prog Φ ΓTd := Sound.qcons (by kernel_rfl) (h_div hst) Sound.nil
omit hst in
theorem s_Ts : Sound Tryz.prog Φ ΓTs := Sound.econs (h_sub trivial) Sound.nil
end Go.Proofs.YtidhogcijghogaaGreatDoor

/- The product of the program's numbers: what it answers. -/
namespace Go.Proofs.YtidhogcijghogaaGreatDoor
open Go Go.Abs Go.RowKit
set_option linter.unusedVariables false
set_option linter.unusedSimpArgs false
theorem row {x y h l S C s1 d1 s2 d2 : Int} (hm : MulR x y h l) (h1 : AddR S l 0 s1 d1) (h2 : AddR s1 C 0 s2 d2) (hS : U64 S) (hC : U64 C) :
    ∃ c, IntKind.u64.wrap (IntKind.u64.wrap (h + d1) + d2) = c ∧ U64 c ∧ x * y + S + C = c * 18446744073709551616 + s2 := by
  obtain ⟨a1, a2, a3, a4, a5, a6⟩ := hm
  obtain ⟨b1, b2, b3⟩ := h1
  obtain ⟨c1, c2, c3⟩ := h2
  have b2 := bit_lt b2
  have c2 := bit_lt c2
  unfold U64 at *
  generalize x * y = p at *
  have e1 : IntKind.u64.wrap (h + d1) = h + d1 := wrap_u64 (by omega)
  have e2 : IntKind.u64.wrap (h + d1 + d2) = h + d1 + d2 := wrap_u64 (by omega)
  refine ⟨h + d1 + d2, by rw [e1, e2], by omega, by omega⟩
theorem wt3 : wt 3 = 340282366920938463463374607431768211456 := rfl
theorem wt2 : wt (IntKind.i64.wrap (3 - 1)) = 6277101735386680763835789423207666416102355444464034512896 := by kernel_rfl
theorem wt1 : wt (IntKind.i64.wrap (IntKind.i64.wrap (3 - 1) - 1)) = 115792089237316195423570985008687907853269984665640564039457584007913129639936 := by kernel_rfl
theorem wt0 : wt (IntKind.i64.wrap (IntKind.i64.wrap (IntKind.i64.wrap (3 - 1) - 1) - 1)) = 2135987035920910082395021706169552114602704522356652769947041607822219725780640550022962086936576 := by kernel_rfl
theorem u0 : U64 0 := ⟨by decide, by decide⟩
theorem bit0 : Bit 0 := .inl rfl
/-- The sum of the products of the words that count. -/
def mulS (a b c d x y z u : Int) : Int := a * x * 115792089237316195423570985008687907853269984665640564039457584007913129639936 + (a * y + b * x) * 6277101735386680763835789423207666416102355444464034512896 + (a * z + b * y + c * x) * 340282366920938463463374607431768211456 + (a * u + b * z + c * y + d * x) * 18446744073709551616 + (b * u + c * z + d * y)
theorem c_trmul {Φ : World → Prop} (hst : ∀ w w', Φ w → Below w.heap.size w w' → Φ w') {a b c d x y z u : Int} (hA : U4 a b c d) (hB : U4 x y z u) : Ans Tryz.prog Φ 94 [vN a b c d, vN x y z u] (vNat (mulS a b c d x y z u / 340282366920938463463374607431768211456)) := by
  refine fn_by hst (s_Tm hst) (vc_trmul a b c d x y z u _) ?_
  obtain ⟨ua, ub, uc, ud⟩ := hA
  obtain ⟨ux, uy, uz, uu⟩ := hB
  refine ⟨⟨ud, uy⟩, fun h1 l1 m1 => ⟨⟨u0, m1.2.1, bit0⟩, fun s1 e1 f1 => ⟨⟨f1.1, u0, bit0⟩, fun r1 g1 q1 => ?_⟩⟩⟩
  obtain ⟨C1, w1, v1, p1⟩ := row m1 f1 q1 u0 u0
  rw [w1]
  refine ⟨⟨ud, ux⟩, fun h2 l2 m2 => ⟨⟨u0, m2.2.1, bit0⟩, fun s2 e2 f2 => ⟨⟨f2.1, v1, bit0⟩, fun r2 g2 q2 => ?_⟩⟩⟩
  obtain ⟨C2, w2, v2, p2⟩ := row m2 f2 q2 u0 v1
  rw [w2]
  refine ⟨fun S3 T3 => ?_, ?_⟩
  rotate_left
  · clear p1 p2
    refine bcase_iff.mpr ⟨fun qa0 => ⟨⟨u0, v2, bit0⟩, fun sa0 da0 fa0 => ?_⟩, fun qa0 => ?_⟩
    · have ta0 := bit_u fa0.2.1
      refine bcase_iff.mpr ⟨fun qa1 => ⟨⟨u0, ta0, bit0⟩, fun sa1 da1 fa1 => ?_⟩, fun qa1 => ?_⟩
      · have ta1 := bit_u fa1.2.1
        refine bcase_iff.mpr ⟨fun qa2 => ⟨⟨u0, ta1, bit0⟩, fun sa2 da2 fa2 => ?_⟩, fun qa2 => ?_⟩
        · have ta2 := bit_u fa2.2.1
          refine bcase_iff.mpr ⟨fun qa3 => ⟨⟨u0, ta2, bit0⟩, fun sa3 da3 fa3 => ?_⟩, fun qa3 => ?_⟩
          · have ta3 := bit_u fa3.2.1
            refine ⟨⟨sa3, sa2, sa1, sa0, r2, r1, da3⟩, ⟨rfl, rfl, rfl, rfl, rfl, rfl, rfl, rfl, rfl, rfl, rfl, rfl, rfl, rfl, rfl, rfl, rfl, rfl, rfl, rfl, trivial⟩, ⟨fa3.1, fa2.1, fa1.1, fa0.1, q2.1, q1.1, ta3, ⟨da3, ?_, ?_⟩⟩⟩
            · exact ta3.1
            · have z0 := fa0.2.2
              have z1 := fa1.2.2
              have z2 := fa2.2.2
              have z3 := fa3.2.2
              simp only [six, wt3]
              omega
          · have na3 := of_decide_eq_false qa3
            refine ⟨⟨0, sa2, sa1, sa0, r2, r1, da2⟩, ⟨rfl, rfl, rfl, rfl, rfl, rfl, rfl, rfl, rfl, rfl, rfl, rfl, rfl, rfl, rfl, rfl, rfl, rfl, rfl, rfl, trivial⟩, ⟨u0, fa2.1, fa1.1, fa0.1, q2.1, q1.1, ta2, ⟨0, ?_, ?_⟩⟩⟩
            · exact Int.le_refl _
            · have z0 := fa0.2.2
              have z1 := fa1.2.2
              have z2 := fa2.2.2
              have y3 := ta2.1
              simp only [six, wt3]
              omega
        · have na2 := of_decide_eq_false qa2
          refine ⟨⟨0, 0, sa1, sa0, r2, r1, da1⟩, ⟨rfl, rfl, rfl, rfl, rfl, rfl, rfl, rfl, rfl, rfl, rfl, rfl, rfl, rfl, rfl, rfl, rfl, rfl, rfl, rfl, trivial⟩, ⟨u0, u0, fa1.1, fa0.1, q2.1, q1.1, ta1, ⟨0, ?_, ?_⟩⟩⟩
          · exact Int.le_refl _
          · have z0 := fa0.2.2
            have z1 := fa1.2.2
            have y2 := ta1.1
            simp only [six, wt3]
            omega
      · have na1 := of_decide_eq_false qa1
        refine ⟨⟨0, 0, 0, sa0, r2, r1, da0⟩, ⟨rfl, rfl, rfl, rfl, rfl, rfl, rfl, rfl, rfl, rfl, rfl, rfl, rfl, rfl, rfl, rfl, rfl, rfl, rfl, rfl, trivial⟩, ⟨u0, u0, u0, fa0.1, q2.1, q1.1, ta0, ⟨0, ?_, ?_⟩⟩⟩
        · exact Int.le_refl _
        · have z0 := fa0.2.2
          have y1 := ta0.1
          simp only [six, wt3]
          omega
    · have na0 := of_decide_eq_false qa0
      refine ⟨⟨0, 0, 0, 0, r2, r1, C2⟩, ⟨rfl, rfl, rfl, rfl, rfl, rfl, rfl, rfl, rfl, rfl, rfl, rfl, rfl, rfl, rfl, rfl, rfl, rfl, rfl, rfl, trivial⟩, ⟨u0, u0, u0, u0, q2.1, q1.1, v2, ⟨0, ?_, ?_⟩⟩⟩
      · exact Int.le_refl _
      · have y0 := v2.1
        simp only [six, wt3]
        omega
  obtain ⟨ua3, ub3, uc3, ud3, ue3, uf3, ug3, k3, kk3, t3⟩ := T3
  simp only [six, wt3] at t3
  refine ⟨⟨uc, uz⟩, fun h3 l3 m3 => ⟨⟨uf3, m3.2.1, bit0⟩, fun s3 e3 f3 => ⟨⟨f3.1, u0, bit0⟩, fun r3 g3 q3 => ?_⟩⟩⟩
  obtain ⟨C3, w3, v3, p3⟩ := row m3 f3 q3 uf3 u0
  rw [w3]
  refine ⟨⟨uc, uy⟩, fun h4 l4 m4 => ⟨⟨ue3, m4.2.1, bit0⟩, fun s4 e4 f4 => ⟨⟨f4.1, v3, bit0⟩, fun r4 g4 q4 => ?_⟩⟩⟩
  obtain ⟨C4, w4, v4, p4⟩ := row m4 f4 q4 ue3 v3
  rw [w4]
  refine ⟨⟨uc, ux⟩, fun h5 l5 m5 => ⟨⟨ud3, m5.2.1, bit0⟩, fun s5 e5 f5 => ⟨⟨f5.1, v4, bit0⟩, fun r5 g5 q5 => ?_⟩⟩⟩
  obtain ⟨C5, w5, v5, p5⟩ := row m5 f5 q5 ud3 v4
  rw [w5]
  refine ⟨fun S2 T2 => ?_, ?_⟩
  rotate_left
  · clear p3 p4 p5
    refine bcase_iff.mpr ⟨fun qa0 => ⟨⟨uc3, v5, bit0⟩, fun sa0 da0 fa0 => ?_⟩, fun qa0 => ?_⟩
    · have ta0 := bit_u fa0.2.1
      refine bcase_iff.mpr ⟨fun qa1 => ⟨⟨ub3, ta0, bit0⟩, fun sa1 da1 fa1 => ?_⟩, fun qa1 => ?_⟩
      · have ta1 := bit_u fa1.2.1
        refine bcase_iff.mpr ⟨fun qa2 => ⟨⟨ua3, ta1, bit0⟩, fun sa2 da2 fa2 => ?_⟩, fun qa2 => ?_⟩
        · have ta2 := bit_u fa2.2.1
          refine ⟨⟨sa2, sa1, sa0, r5, r4, r3, da2⟩, ⟨rfl, rfl, rfl, rfl, rfl, rfl, rfl, rfl, rfl, rfl, rfl, rfl, rfl, rfl, rfl, rfl, rfl, rfl, rfl, rfl, trivial⟩, ⟨fa2.1, fa1.1, fa0.1, q5.1, q4.1, q3.1, ta2, ⟨da2, ?_, ?_⟩⟩⟩
          · exact ta2.1
          · have z0 := fa0.2.2
            have z1 := fa1.2.2
            have z2 := fa2.2.2
            simp only [six, wt2]
            omega
        · have na2 := of_decide_eq_false qa2
          refine ⟨⟨S3.1, sa1, sa0, r5, r4, r3, da1⟩, ⟨rfl, rfl, rfl, rfl, rfl, rfl, rfl, rfl, rfl, rfl, rfl, rfl, rfl, rfl, rfl, rfl, rfl, rfl, rfl, rfl, trivial⟩, ⟨ua3, fa1.1, fa0.1, q5.1, q4.1, q3.1, ta1, ⟨0, ?_, ?_⟩⟩⟩
          · exact Int.le_refl _
          · have z0 := fa0.2.2
            have z1 := fa1.2.2
            have y2 := ta1.1
            simp only [six, wt2]
            omega
      · have na1 := of_decide_eq_false qa1
        refine ⟨⟨S3.1, S3.2, sa0, r5, r4, r3, da0⟩, ⟨rfl, rfl, rfl, rfl, rfl, rfl, rfl, rfl, rfl, rfl, rfl, rfl, rfl, rfl, rfl, rfl, rfl, rfl, rfl, rfl, trivial⟩, ⟨ua3, ub3, fa0.1, q5.1, q4.1, q3.1, ta0, ⟨0, ?_, ?_⟩⟩⟩
        · exact Int.le_refl _
        · have z0 := fa0.2.2
          have y1 := ta0.1
          simp only [six, wt2]
          omega
    · have na0 := of_decide_eq_false qa0
      refine ⟨⟨S3.1, S3.2, S3.3, r5, r4, r3, C5⟩, ⟨rfl, rfl, rfl, rfl, rfl, rfl, rfl, rfl, rfl, rfl, rfl, rfl, rfl, rfl, rfl, rfl, rfl, rfl, rfl, rfl, trivial⟩, ⟨ua3, ub3, uc3, q5.1, q4.1, q3.1, v5, ⟨0, ?_, ?_⟩⟩⟩
      · exact Int.le_refl _
      · have y0 := v5.1
        simp only [six, wt2]
        omega
  obtain ⟨ua2, ub2, uc2, ud2, ue2, uf2, ug2, k2, kk2, t2⟩ := T2
  simp only [six, wt2] at t2
  refine ⟨⟨ub, uu⟩, fun h6 l6 m6 => ⟨⟨uf2, m6.2.1, bit0⟩, fun s6 e6 f6 => ⟨⟨f6.1, u0, bit0⟩, fun r6 g6 q6 => ?_⟩⟩⟩
  obtain ⟨C6, w6, v6, p6⟩ := row m6 f6 q6 uf2 u0
  rw [w6]
  refine ⟨⟨ub, uz⟩, fun h7 l7 m7 => ⟨⟨ue2, m7.2.1, bit0⟩, fun s7 e7 f7 => ⟨⟨f7.1, v6, bit0⟩, fun r7 g7 q7 => ?_⟩⟩⟩
  obtain ⟨C7, w7, v7, p7⟩ := row m7 f7 q7 ue2 v6
  rw [w7]
  refine ⟨⟨ub, uy⟩, fun h8 l8 m8 => ⟨⟨ud2, m8.2.1, bit0⟩, fun s8 e8 f8 => ⟨⟨f8.1, v7, bit0⟩, fun r8 g8 q8 => ?_⟩⟩⟩
  obtain ⟨C8, w8, v8, p8⟩ := row m8 f8 q8 ud2 v7
  rw [w8]
  refine ⟨⟨ub, ux⟩, fun h9 l9 m9 => ⟨⟨uc2, m9.2.1, bit0⟩, fun s9 e9 f9 => ⟨⟨f9.1, v8, bit0⟩, fun r9 g9 q9 => ?_⟩⟩⟩
  obtain ⟨C9, w9, v9, p9⟩ := row m9 f9 q9 uc2 v8
  rw [w9]
  refine ⟨fun S1 T1 => ?_, ?_⟩
  rotate_left
  · clear p6 p7 p8 p9
    refine bcase_iff.mpr ⟨fun qa0 => ⟨⟨ub2, v9, bit0⟩, fun sa0 da0 fa0 => ?_⟩, fun qa0 => ?_⟩
    · have ta0 := bit_u fa0.2.1
      refine bcase_iff.mpr ⟨fun qa1 => ⟨⟨ua2, ta0, bit0⟩, fun sa1 da1 fa1 => ?_⟩, fun qa1 => ?_⟩
      · have ta1 := bit_u fa1.2.1
        refine ⟨⟨sa1, sa0, r9, r8, r7, r6, da1⟩, ⟨rfl, rfl, rfl, rfl, rfl, rfl, rfl, rfl, rfl, rfl, rfl, rfl, rfl, rfl, rfl, rfl, rfl, rfl, rfl, rfl, trivial⟩, ⟨fa1.1, fa0.1, q9.1, q8.1, q7.1, q6.1, ta1, ⟨da1, ?_, ?_⟩⟩⟩
        · exact ta1.1
        · have z0 := fa0.2.2
          have z1 := fa1.2.2
          simp only [six, wt1]
          omega
      · have na1 := of_decide_eq_false qa1
        refine ⟨⟨S2.1, sa0, r9, r8, r7, r6, da0⟩, ⟨rfl, rfl, rfl, rfl, rfl, rfl, rfl, rfl, rfl, rfl, rfl, rfl, rfl, rfl, rfl, rfl, rfl, rfl, rfl, rfl, trivial⟩, ⟨ua2, fa0.1, q9.1, q8.1, q7.1, q6.1, ta0, ⟨0, ?_, ?_⟩⟩⟩
        · exact Int.le_refl _
        · have z0 := fa0.2.2
          have y1 := ta0.1
          simp only [six, wt1]
          omega
    · have na0 := of_decide_eq_false qa0
      refine ⟨⟨S2.1, S2.2, r9, r8, r7, r6, C9⟩, ⟨rfl, rfl, rfl, rfl, rfl, rfl, rfl, rfl, rfl, rfl, rfl, rfl, rfl, rfl, rfl, rfl, rfl, rfl, rfl, rfl, trivial⟩, ⟨ua2, ub2, q9.1, q8.1, q7.1, q6.1, v9, ⟨0, ?_, ?_⟩⟩⟩
      · exact Int.le_refl _
      · have y0 := v9.1
        simp only [six, wt1]
        omega
  obtain ⟨ua1, ub1, uc1, ud1, ue1, uf1, ug1, k1, kk1, t1⟩ := T1
  simp only [six, wt1] at t1
  refine ⟨⟨ua, uu⟩, fun h10 l10 m10 => ⟨⟨ue1, m10.2.1, bit0⟩, fun s10 e10 f10 => ⟨⟨f10.1, u0, bit0⟩, fun r10 g10 q10 => ?_⟩⟩⟩
  obtain ⟨C10, w10, v10, p10⟩ := row m10 f10 q10 ue1 u0
  rw [w10]
  refine ⟨⟨ua, uz⟩, fun h11 l11 m11 => ⟨⟨ud1, m11.2.1, bit0⟩, fun s11 e11 f11 => ⟨⟨f11.1, v10, bit0⟩, fun r11 g11 q11 => ?_⟩⟩⟩
  obtain ⟨C11, w11, v11, p11⟩ := row m11 f11 q11 ud1 v10
  rw [w11]
  refine ⟨⟨ua, uy⟩, fun h12 l12 m12 => ⟨⟨uc1, m12.2.1, bit0⟩, fun s12 e12 f12 => ⟨⟨f12.1, v11, bit0⟩, fun r12 g12 q12 => ?_⟩⟩⟩
  obtain ⟨C12, w12, v12, p12⟩ := row m12 f12 q12 uc1 v11
  rw [w12]
  refine ⟨⟨ua, ux⟩, fun h13 l13 m13 => ⟨⟨ub1, m13.2.1, bit0⟩, fun s13 e13 f13 => ⟨⟨f13.1, v12, bit0⟩, fun r13 g13 q13 => ?_⟩⟩⟩
  obtain ⟨C13, w13, v13, p13⟩ := row m13 f13 q13 ub1 v12
  rw [w13]
  refine ⟨fun S0 T0 => ?_, ?_⟩
  rotate_left
  · clear p10 p11 p12 p13
    refine bcase_iff.mpr ⟨fun qa0 => ⟨⟨ua1, v13, bit0⟩, fun sa0 da0 fa0 => ?_⟩, fun qa0 => ?_⟩
    · have ta0 := bit_u fa0.2.1
      refine ⟨⟨sa0, r13, r12, r11, r10, S1.6, da0⟩, ⟨rfl, rfl, rfl, rfl, rfl, rfl, rfl, rfl, rfl, rfl, rfl, rfl, rfl, rfl, rfl, rfl, rfl, rfl, rfl, rfl, trivial⟩, ⟨fa0.1, q13.1, q12.1, q11.1, q10.1, uf1, ta0, ⟨da0, ?_, ?_⟩⟩⟩
      · exact ta0.1
      · have z0 := fa0.2.2
        simp only [six, wt0]
        omega
    · have na0 := of_decide_eq_false qa0
      refine ⟨⟨S1.1, r13, r12, r11, r10, S1.6, C13⟩, ⟨rfl, rfl, rfl, rfl, rfl, rfl, rfl, rfl, rfl, rfl, rfl, rfl, rfl, rfl, rfl, rfl, rfl, rfl, rfl, rfl, trivial⟩, ⟨ua1, q13.1, q12.1, q11.1, q10.1, uf1, v13, ⟨0, ?_, ?_⟩⟩⟩
      · exact Int.le_refl _
      · have y0 := v13.1
        simp only [six, wt0]
        omega
  obtain ⟨ua0, ub0, uc0, ud0, ue0, uf0, ug0, k0, kk0, t0⟩ := T0
  simp only [six, wt0] at t0
  have M := mul_end ⟨ua0, ub0, uc0, ud0⟩ ue0 uf0 (P := mulS a b c d x y z u) (k := k0 + k1 + k2 + k3) (by omega) (by unfold mulS six; omega) (by unfold mulS; have b1 := m1.2.2.2.2; have b2 := m2.2.2.2.2; have b3 := m3.2.2.2.2; have b4 := m4.2.2.2.2; have b5 := m5.2.2.2.2; have b6 := m6.2.2.2.2; have b7 := m7.2.2.2.2; have b8 := m8.2.2.2.2; have b9 := m9.2.2.2.2; have b10 := m10.2.2.2.2; have b11 := m11.2.2.2.2; have b12 := m12.2.2.2.2; have b13 := m13.2.2.2.2; omega)
  exact M.symm
end Go.Proofs.YtidhogcijghogaaGreatDoor

/- The program's numbers: contracts of differences, quotients and products, with bounds. -/
namespace Go.Proofs.YtidhogcijghogaaGreatDoor
open Go Go.Abs Go.RowKit
set_option linter.unusedVariables false
set_option linter.unusedSimpArgs false
abbrev W4 : Int := 115792089237316195423570985008687907853269984665640564039457584007913129639936
def w3 (n : Int) : Int := n / 6277101735386680763835789423207666416102355444464034512896
def w2 (n : Int) : Int := n / 340282366920938463463374607431768211456 % 18446744073709551616
def w1 (n : Int) : Int := n / 18446744073709551616 % 18446744073709551616
def w0 (n : Int) : Int := n % 18446744073709551616
/-- The product of two numbers, as the program makes it. -/
def mulI (A B : Int) : Int := mulS (w3 A) (w2 A) (w1 A) (w0 A) (w3 B) (w2 B) (w1 B) (w0 B) / 340282366920938463463374607431768211456
theorem w_nval {a b c d : Int} (h : U4 a b c d) : w3 (nval a b c d) = a ∧ w2 (nval a b c d) = b ∧ w1 (nval a b c d) = c ∧ w0 (nval a b c d) = d := by
  obtain ⟨⟨a0, a1⟩, ⟨b0, b1⟩, ⟨c0, c1⟩, d0, d1⟩ := h
  unfold w3 w2 w1 w0 nval
  omega
theorem u4_w {n : Int} (h0 : 0 ≤ n) (h1 : n < W4) : U4 (w3 n) (w2 n) (w1 n) (w0 n) ∧ nval (w3 n) (w2 n) (w1 n) (w0 n) = n := by
  unfold U4 U64 w3 w2 w1 w0 nval
  unfold W4 at h1
  omega
theorem mulI_nval {a b c d x y z u : Int} (hA : U4 a b c d) (hB : U4 x y z u) : mulS a b c d x y z u / 340282366920938463463374607431768211456 = mulI (nval a b c d) (nval x y z u) := by
  obtain ⟨a1, a2, a3, a4⟩ := w_nval hA
  obtain ⟨b1, b2, b3, b4⟩ := w_nval hB
  unfold mulI
  rw [a1, a2, a3, a4, b1, b2, b3, b4]
theorem prod_le {x y : Int} (hx : U64 x) (hy : U64 y) : 0 ≤ x * y ∧ x * y ≤ 340282366920938463426481119284349108225 := by
  obtain ⟨x0, x1⟩ := hx
  obtain ⟨y0, y1⟩ := hy
  have p1 : x * y ≤ 18446744073709551615 * 18446744073709551615 := Int.mul_le_mul (by omega) (by omega) y0 (by decide)
  exact ⟨Int.mul_nonneg x0 y0, by omega⟩
theorem mulI_bounds {A B : Int} (hA : 0 ≤ A ∧ A < W4) (hB : 0 ≤ B ∧ B < W4) : 0 ≤ mulI A B ∧ mulI A B * W4 ≤ A * B ∧ A * B < (mulI A B + 2) * W4 := by
  obtain ⟨⟨ua, ub, uc, ud⟩, eA⟩ := u4_w hA.1 hA.2
  obtain ⟨⟨ux, uy, uz, uu⟩, eB⟩ := u4_w hB.1 hB.2
  have e : A * B = mulS (w3 A) (w2 A) (w1 A) (w0 A) (w3 B) (w2 B) (w1 B) (w0 B) * 340282366920938463463374607431768211456 + (w1 A * w0 B + w0 A * w1 B) * 18446744073709551616 + w0 A * w0 B := by
    rw [← eA, ← eB]
    obtain ⟨a1, a2, a3, a4⟩ := w_nval ⟨ua, ub, uc, ud⟩
    obtain ⟨b1, b2, b3, b4⟩ := w_nval ⟨ux, uy, uz, uu⟩
    rw [a1, a2, a3, a4, b1, b2, b3, b4]
    clear a1 a2 a3 a4 b1 b2 b3 b4 eA eB
    generalize w3 A = a
    generalize w2 A = b
    generalize w1 A = c
    generalize w0 A = d
    generalize w3 B = x
    generalize w2 B = y
    generalize w1 B = z
    generalize w0 B = u
    unfold nval mulS
    grind
  have n : 0 ≤ mulS (w3 A) (w2 A) (w1 A) (w0 A) (w3 B) (w2 B) (w1 B) (w0 B) := by
    unfold mulS
    have := (prod_le ua ux).1; have := (prod_le ua uy).1; have := (prod_le ub ux).1; have := (prod_le ua uz).1; have := (prod_le ub uy).1; have := (prod_le uc ux).1
    have := (prod_le ua uu).1; have := (prod_le ub uz).1; have := (prod_le uc uy).1; have := (prod_le ud ux).1; have := (prod_le ub uu).1; have := (prod_le uc uz).1; have := (prod_le ud uy).1
    omega
  have p1 := prod_le uc uu
  have p2 := prod_le ud uz
  have p3 := prod_le ud uu
  rw [e]
  unfold mulI W4
  generalize mulS (w3 A) (w2 A) (w1 A) (w0 A) (w3 B) (w2 B) (w1 B) (w0 B) = P at *
  generalize w1 A * w0 B = q1 at *
  generalize w0 A * w1 B = q2 at *
  generalize w0 A * w0 B = q3 at *
  omega
theorem mulI_lt {A B : Int} (hA : 0 ≤ A ∧ A < W4) (hB : 0 ≤ B ∧ B < W4) : 0 ≤ mulI A B ∧ mulI A B < W4 := by
  obtain ⟨h1, h2, h3⟩ := mulI_bounds hA hB
  refine ⟨h1, ?_⟩
  have : A * B ≤ (W4 - 1) * (W4 - 1) := Int.mul_le_mul (by omega) (by omega) hB.1 (by decide)
  unfold W4 at *
  omega
/-- The words of a number, and what they are. -/
def IsN (n a b c d : Int) : Prop := U4 a b c d ∧ nval a b c d = n
theorem vNat_is {n : Int} (h0 : 0 ≤ n) (h1 : n < W4) {K : Value → Prop} (h : ∀ a b c d, IsN n a b c d → K (vN a b c d)) : K (vNat n) := by
  obtain ⟨u, e⟩ := u4_w h0 h1
  exact h _ _ _ _ ⟨u, e⟩
theorem isN_v {n a b c d : Int} (h : IsN n a b c d) : vN a b c d = vNat n := by
  obtain ⟨u, e⟩ := h
  rw [← e, vNat_nval u]
variable {Φ : World → Prop} (hst : ∀ w w', Φ w → Below w.heap.size w w' → Φ w')
include hst
theorem c_trsub {a b c d x y z u : Int} (hA : U4 a b c d) (hB : U4 x y z u) : Ans Tryz.prog Φ 93 [vN a b c d, vN x y z u] (vNat ((nval a b c d - nval x y z u) % W4)) := by
  refine fn_by hst s_Ts (vc_trsub a b c d x y z u _) ?_
  obtain ⟨ua, ub, uc, ud⟩ := hA
  obtain ⟨ux, uy, uz, uu⟩ := hB
  refine ⟨⟨ud, uu, bit0⟩, fun s1 b1 h1 => ⟨⟨uc, uz, h1.2.1⟩, fun s2 b2 h2 => ⟨⟨ub, uy, h2.2.1⟩, fun s3 b3 h3 => ⟨⟨ua, ux, h3.2.1⟩, fun s4 b4 h4 => ?_⟩⟩⟩⟩
  refine isN_v ⟨⟨h4.1, h3.1, h2.1, h1.1⟩, ?_⟩
  obtain ⟨⟨p1, q1⟩, r1, e1⟩ := h1
  obtain ⟨⟨p2, q2⟩, r2, e2⟩ := h2
  obtain ⟨⟨p3, q3⟩, r3, e3⟩ := h3
  obtain ⟨⟨p4, q4⟩, r4, e4⟩ := h4
  unfold nval W4
  omega
theorem c_trdiv {a b c d t y : Int} (hA : U4 a b c d) (ht : U64 t) (hy : U64 y) (hlt : t < y) : Ans Tryz.prog Φ 118 [vN a b c d, .int .u64 t, .int .u64 y] (vNat ((t * W4 + nval a b c d) / y)) := by
  refine fn_by hst (s_Td hst) (vc_trdiv a b c d t y _) ?_
  obtain ⟨ua, ub, uc, ud⟩ := hA
  have ur : ∀ {h l q r : Int}, DivR h l y q r → U64 r := fun h => ⟨h.2.1, by have := h.2.2.1; have := hy.2; omega⟩
  refine ⟨⟨ht, ua, hy, hlt⟩, fun q1 r1 h1 => ⟨⟨ur h1, ub, hy, h1.2.2.1⟩, fun q2 r2 h2 => ⟨⟨ur h2, uc, hy, h2.2.2.1⟩, fun q3 r3 h3 => ⟨⟨ur h3, ud, hy, h3.2.2.1⟩, fun q4 r4 h4 => ?_⟩⟩⟩⟩
  refine isN_v ⟨⟨h1.1, h2.1, h3.1, h4.1⟩, ?_⟩
  have e : t * W4 + nval a b c d = r4 + nval q1 q2 q3 q4 * y := by
    have e1 := h1.2.2.2
    have e2 := h2.2.2.2
    have e3 := h3.2.2.2
    have e4 := h4.2.2.2
    unfold nval W4
    rw [Int.add_mul, Int.add_mul, Int.add_mul, Int.mul_right_comm q1, Int.mul_right_comm q2, Int.mul_right_comm q3]
    generalize q1 * y = p1 at *
    generalize q2 * y = p2 at *
    generalize q3 * y = p3 at *
    generalize q4 * y = p4 at *
    omega
  have y0 : y ≠ 0 := by have := h4.2.1; have := h4.2.2.1; omega
  rw [e, Int.add_mul_ediv_right _ _ y0, Int.ediv_eq_zero_of_lt h4.2.1 h4.2.2.1, Int.zero_add]
theorem c_trmulI {a b c d x y z u : Int} (hA : U4 a b c d) (hB : U4 x y z u) : Ans Tryz.prog Φ 94 [vN a b c d, vN x y z u] (vNat (mulI (nval a b c d) (nval x y z u))) := by
  rw [← mulI_nval hA hB]
  exact c_trmul hst hA hB
end Go.Proofs.YtidhogcijghogaaGreatDoor

/- The program's angles in 256 digits and their series: what they answer. -/
namespace Go.Proofs.YtidhogcijghogaaGreatDoor
open Go Go.Abs Go.RowKit
set_option linter.unusedVariables false
def qSubN : QSpec := fun | [.agg ⟨[.int .u64 a, .int .u64 b, .int .u64 c, .int .u64 d]⟩, .agg ⟨[.int .u64 x, .int .u64 y, .int .u64 z, .int .u64 u]⟩] => some (U4 a b c d ∧ U4 x y z u, fun K => ∀ e f g h, IsN ((nval a b c d - nval x y z u) % W4) e f g h → K (vN e f g h)) | _ => none
def qMulN : QSpec := fun | [.agg ⟨[.int .u64 a, .int .u64 b, .int .u64 c, .int .u64 d]⟩, .agg ⟨[.int .u64 x, .int .u64 y, .int .u64 z, .int .u64 u]⟩] => some (U4 a b c d ∧ U4 x y z u, fun K => ∀ e f g h, IsN (mulI (nval a b c d) (nval x y z u)) e f g h → K (vN e f g h)) | _ => none
def qDivN : QSpec := fun | [.agg ⟨[.int .u64 a, .int .u64 b, .int .u64 c, .int .u64 d]⟩, .int .u64 t, .int .u64 y] => some (U4 a b c d ∧ U64 t ∧ U64 y ∧ t < y, fun K => ∀ e f g h, IsN ((t * W4 + nval a b c d) / y) e f g h → K (vN e f g h)) | _ => none
/-- pi times 2^256, rounded down. -/
def piI : Int := 363771576891766324280234942777729862653393377328392429958772151117938894466185
/-- The angle of some units, in 256 digits. -/
def radI (n : Int) : Int := piI * n / 10800000
def qRad : QSpec := fun | [.int .i64 n] => some (0 ≤ n ∧ n ≤ 2700000, fun K => ∀ e f g h, IsN (radI n) e f g h → K (vN e f g h)) | _ => none
/-- So many rounds of the series. -/
def lessI (Y o : Int) : Nat → Int → Int
  | 0, u => u
  | k + 1, u => lessI Y o k ((Y / ((2 * k + 1 + o) * (2 * k + 2 + o)) - mulI (Y / ((2 * k + 1 + o) * (2 * k + 2 + o))) u) % W4)
def qLess : QSpec := fun | [.agg ⟨[.int .u64 a, .int .u64 b, .int .u64 c, .int .u64 d]⟩, .int .u64 o] => some (U4 a b c d ∧ Bit o, fun K => ∀ e f g h, IsN (lessI (mulI (nval a b c d) (nval a b c d)) o 34 0) e f g h → K (vN e f g h)) | _ => none
structure Ls where
  k : Nat
  a : Int
  b : Int
  c : Int
  d : Int
structure LsR (Y o : Int) (k : Nat) (a b c d : Int) : Prop where
  le : k ≤ 34
  u : U4 a b c d
  eq : lessI Y o k (nval a b c d) = lessI Y o 34 0
def annLess (Y o : Int) : Ann where
  σ := Ls
  st := fun s x => ⟨lset (keepA s 36 [1, 2, 4, 5, 6]) 7 (.v (.int .u64 x.k)), setCs s 3 [.v (.int .u64 x.a), .v (.int .u64 x.b), .v (.int .u64 x.c), .v (.int .u64 x.d)]⟩
  inv := fun s x => LsR Y o x.k x.a x.b x.c x.d
  μ := fun _ x => x.k
def ALess (Y o : Int) : FuncId → List (Nat × LoopBy) := fun _ => [(0, .ann (annLess Y o))]
/-- One times the sine of 0 to 90 degrees, as the program makes it, and whether it is exact. -/
def sinX (X : Int) : Int := (X - mulI X (lessI (mulI X X) 1 34 0)) % W4
def cosX (X : Int) : Int := (0 - lessI (mulI X X) 0 34 0) % W4
def sinP (n : Int) : Int := if n = 0 then 0 else if n = 1800000 then 536870912 else if n = 5400000 then 1073741824 else if 2 * n ≤ 5400000 then sinX (radI n) / 107839786668602559178668060348078522694548577690162289924414440996864 else cosX (radI (5400000 - n)) / 107839786668602559178668060348078522694548577690162289924414440996864
def exB (n : Int) : Bool := n == 0 || (n == 1800000 || n == 5400000)
def ΓTr : List (FuncId × CSpec) := [(117, .e eAdd64), (80, .q qMul64), (118, .q qDivN)]
def ΓTl : List (FuncId × CSpec) := [(94, .q qMulN), (93, .q qSubN), (118, .q qDivN)]
def ΓTn : List (FuncId × CSpec) := [(94, .q qMulN), (93, .q qSubN), (92, .q qRad), (95, .q qLess)]
end Go.Proofs.YtidhogcijghogaaGreatDoor

/- What the program's angles in 256 digits and their series ask. -/
namespace Go.Proofs.YtidhogcijghogaaGreatDoor
open Go Go.Abs Go.RowKit
set_option linter.unusedVariables false
set_option linter.unusedSimpArgs false
theorem vc_trrad (n : Int) (K : Value → Prop) : callsX Tryz.prog (ΓTr) (four) 92 [.int .i64 n] K = (
 (U64 589684135938649225 ∧ U64 (IntKind.u64.wrap n)) ∧
 ∀ (h l : Int),
 MulR 589684135938649225 (IntKind.u64.wrap n) h l →
 (U64 l ∧ U64 0 ∧ Bit 0) ∧
 ∀ (s d : Int),
 AddR l 0 0 s d →
 (U64 11820040416388919760 ∧ U64 (IntKind.u64.wrap n)) ∧
 ∀ (h_3 l : Int),
 MulR 11820040416388919760 (IntKind.u64.wrap n) h_3 l →
 (U64 l ∧ U64 (IntKind.u64.wrap (h + d)) ∧ Bit 0) ∧
 ∀ (s_1 d_1 : Int),
 AddR l (IntKind.u64.wrap (h + d)) 0 s_1 d_1 →
 (U64 1376283091369227076 ∧ U64 (IntKind.u64.wrap n)) ∧
 ∀ (h l : Int),
 MulR 1376283091369227076 (IntKind.u64.wrap n) h l →
 (U64 l ∧ U64 (IntKind.u64.wrap (h_3 + d_1)) ∧ Bit 0) ∧
 ∀ (s_2 d : Int),
 AddR l (IntKind.u64.wrap (h_3 + d_1)) 0 s_2 d →
 (U64 2611923443488327891 ∧ U64 (IntKind.u64.wrap n)) ∧
 ∀ (h_7 l : Int),
 MulR 2611923443488327891 (IntKind.u64.wrap n) h_7 l →
 (U64 l ∧ U64 (IntKind.u64.wrap (h + d)) ∧ Bit 0) ∧
 ∀ (s_3 d_2 : Int),
 AddR l (IntKind.u64.wrap (h + d)) 0 s_3 d_2 →
 (U4 s_3 s_2 s_1 s ∧ U64 ((IntKind.u64.wrap (IntKind.u64.wrap (h_7 + d_2) + IntKind.u64.wrap (3 * IntKind.u64.wrap n))).tmod 10800000) ∧ U64 10800000 ∧ (IntKind.u64.wrap (IntKind.u64.wrap (h_7 + d_2) + IntKind.u64.wrap (3 * IntKind.u64.wrap n))).tmod 10800000 < 10800000) ∧
 ∀ (e f g h : Int), IsN (((IntKind.u64.wrap (IntKind.u64.wrap (h_7 + d_2) + IntKind.u64.wrap (3 * IntKind.u64.wrap n))).tmod 10800000 * W4 + nval s_3 s_2 s_1 s) / 10800000) e f g h → K (Value.agg #[Value.int IntKind.u64 e, Value.int IntKind.u64 f, Value.int IntKind.u64 g, Value.int IntKind.u64 h])) := by kernel_rfl
theorem vc_trless (a b c d o : Int) (K : Value → Prop) : callsX Tryz.prog (ΓTl) (ALess (mulI (nval a b c d) (nval a b c d)) o) 95 [vN a b c d, .int .u64 o] K = (
 (U4 a b c d ∧ U4 a b c d) ∧
 ∀ (e f g h : Int),
 IsN (mulI (nval a b c d) (nval a b c d)) e f g h →
 ∃ (s : Ls),
 (o = o ∧ 34 = (↑s.1 : Int) ∧ a = a ∧ b = b ∧ c = c ∧ d = d ∧ Int.ofNat 0 = 0 ∧ Int.ofNat 0 = 0 ∧ Int.ofNat 0 = 0 ∧ Int.ofNat 0 = 0 ∧ e = e ∧ f = f ∧ g = g ∧ h = h ∧ 0 = s.2 ∧ 0 = s.3 ∧ 0 = s.4 ∧ 0 = s.5 ∧ True) ∧
 LsR (mulI (nval a b c d) (nval a b c d)) o s.1 s.2 s.3 s.4 s.5 ∧
 ∀ (s : Ls),
 LsR (mulI (nval a b c d) (nval a b c d)) o s.1 s.2 s.3 s.4 s.5 →
 bcase (decide ((↑s.1 : Int) > 0))
 ((U4 e f g h ∧ U64 0 ∧ U64 (IntKind.u64.wrap (IntKind.u64.wrap (IntKind.u64.wrap (IntKind.u64.wrap (2 * (↑s.1 : Int)) - 1) + o) * IntKind.u64.wrap (IntKind.u64.wrap (2 * (↑s.1 : Int)) + o))) ∧ 0 < IntKind.u64.wrap (IntKind.u64.wrap (IntKind.u64.wrap (IntKind.u64.wrap (2 * (↑s.1 : Int)) - 1) + o) * IntKind.u64.wrap (IntKind.u64.wrap (2 * (↑s.1 : Int)) + o))) ∧
 ∀ (e_1 f_1 g_1 h_3 : Int),
 IsN ((0 * W4 + nval e f g h) / IntKind.u64.wrap (IntKind.u64.wrap (IntKind.u64.wrap (IntKind.u64.wrap (2 * (↑s.1 : Int)) - 1) + o) * IntKind.u64.wrap (IntKind.u64.wrap (2 * (↑s.1 : Int)) + o))) e_1 f_1 g_1 h_3 →
 (U4 e_1 f_1 g_1 h_3 ∧ U4 s.2 s.3 s.4 s.5) ∧
 ∀ (e_2 f_2 g_2 h_5 : Int),
 IsN (mulI (nval e_1 f_1 g_1 h_3) (nval s.2 s.3 s.4 s.5)) e_2 f_2 g_2 h_5 →
 (U4 e_1 f_1 g_1 h_3 ∧ U4 e_2 f_2 g_2 h_5) ∧
 ∀ (e_3 f_3 g_3 h_7 : Int),
 IsN ((nval e_1 f_1 g_1 h_3 - nval e_2 f_2 g_2 h_5) % W4) e_3 f_3 g_3 h_7 →
 ∃ (s_1 : Ls), (o = o ∧ IntKind.u64.wrap ((↑s.1 : Int) - 1) = (↑s_1.1 : Int) ∧ a = a ∧ b = b ∧ c = c ∧ d = d ∧ Int.ofNat 0 = 0 ∧ Int.ofNat 0 = 0 ∧ Int.ofNat 0 = 0 ∧ Int.ofNat 0 = 0 ∧ e = e ∧ f = f ∧ g = g ∧ h = h ∧ e_3 = s_1.2 ∧ f_3 = s_1.3 ∧ g_3 = s_1.4 ∧ h_7 = s_1.5 ∧ True) ∧ LsR (mulI (nval a b c d) (nval a b c d)) o s_1.1 s_1.2 s_1.3 s_1.4 s_1.5 ∧ s_1.1 < s.1)
 (K (Value.agg #[Value.int IntKind.u64 s.2, Value.int IntKind.u64 s.3, Value.int IntKind.u64 s.4, Value.int IntKind.u64 s.5]))) := by kernel_rfl
theorem vc_trsine (n : Int) (K : Value → Prop) : callsX Tryz.prog (ΓTn) (noAnn) 79 [.int .i64 n] K = (
 bcase (n == 0) (K (Value.tuple #[Value.int IntKind.i64 0, Value.bool true]))
 (bcase (n == 1800000) (K (Value.tuple #[Value.int IntKind.i64 536870912, Value.bool true]))
 (bcase (n == 5400000) (K (Value.tuple #[Value.int IntKind.i64 1073741824, Value.bool true]))
 (bcase (decide (IntKind.i64.wrap (2 * n) ≤ 5400000))
 ((0 ≤ n ∧ n ≤ 2700000) ∧
 ∀ (e f g h : Int),
 IsN (radI n) e f g h →
 (U4 e f g h ∧ Bit 1) ∧
 ∀ (e_1 f_1 g_1 h_2 : Int),
 IsN (lessI (mulI (nval e f g h) (nval e f g h)) 1 34 0) e_1 f_1 g_1 h_2 →
 (U4 e f g h ∧ U4 e_1 f_1 g_1 h_2) ∧ ∀ (e_2 f_2 g_2 h_4 : Int), IsN (mulI (nval e f g h) (nval e_1 f_1 g_1 h_2)) e_2 f_2 g_2 h_4 → (U4 e f g h ∧ U4 e_2 f_2 g_2 h_4) ∧ ∀ (e_3 f_3 g_3 h_6 : Int), IsN ((nval e f g h - nval e_2 f_2 g_2 h_4) % W4) e_3 f_3 g_3 h_6 → K (Value.tuple #[Value.int IntKind.i64 (IntKind.i64.wrap (e_3.fdiv (2 ^ 34))), Value.bool false]))
 ((0 ≤ IntKind.i64.wrap (5400000 - n) ∧ IntKind.i64.wrap (5400000 - n) ≤ 2700000) ∧
 ∀ (e f g h : Int),
 IsN (radI (IntKind.i64.wrap (5400000 - n))) e f g h → (U4 e f g h ∧ Bit 0) ∧ ∀ (e_1 f_1 g_1 h_2 : Int), IsN (lessI (mulI (nval e f g h) (nval e f g h)) 0 34 0) e_1 f_1 g_1 h_2 → (U4 0 0 0 0 ∧ U4 e_1 f_1 g_1 h_2) ∧ ∀ (e f g h : Int), IsN ((nval 0 0 0 0 - nval e_1 f_1 g_1 h_2) % W4) e f g h → K (Value.tuple #[Value.int IntKind.i64 (IntKind.i64.wrap (e.fdiv (2 ^ 34))), Value.bool false])))))) := by kernel_rfl
end Go.Proofs.YtidhogcijghogaaGreatDoor

/- The program's angles in 256 digits, their series, and its sine: contracts. -/
namespace Go.Proofs.YtidhogcijghogaaGreatDoor
open Go Go.Abs Go.RowKit
set_option linter.unusedVariables false
set_option linter.unusedSimpArgs false
variable {Φ : World → Prop} (hst : ∀ w w', Φ w → Below w.heap.size w w' → Φ w')
include hst
theorem h_trsub : ∀ args p Q, qSubN args = some (p, Q) → p → ∀ K, Q K → ∃ v, Ans Tryz.prog Φ 93 args v ∧ K v := by
  intro args p Q h hp K hK
  unfold qSubN at h
  split at h <;> cases h
  exact ⟨_, c_trsub hst hp.1 hp.2, vNat_is (Int.emod_nonneg _ (by decide)) (Int.emod_lt_of_pos _ (by decide)) hK⟩
theorem h_trmul : ∀ args p Q, qMulN args = some (p, Q) → p → ∀ K, Q K → ∃ v, Ans Tryz.prog Φ 94 args v ∧ K v := by
  intro args p Q h hp K hK
  unfold qMulN at h
  split at h <;> cases h
  have l := mulI_lt (nval_lt hp.1) (nval_lt hp.2)
  exact ⟨_, c_trmulI hst hp.1 hp.2, vNat_is l.1 l.2 hK⟩
theorem h_trdiv : ∀ args p Q, qDivN args = some (p, Q) → p → ∀ K, Q K → ∃ v, Ans Tryz.prog Φ 118 args v ∧ K v := by
  intro args p Q h hp K hK
  unfold qDivN at h
  split at h <;> cases h
  rename_i a b c d t y
  obtain ⟨hA, ht, hy, hlt⟩ := hp
  have l := nval_lt hA
  have y0 : 0 < y := by have := ht.1; omega
  have e1 : 0 ≤ (t * W4 + nval a b c d) / y := Int.ediv_nonneg (by have := Int.mul_nonneg ht.1 (show 0 ≤ W4 by decide); omega) (by omega)
  have e2 : (t * W4 + nval a b c d) / y < W4 := by
    apply Int.ediv_lt_of_lt_mul y0
    have : (t + 1) * W4 ≤ y * W4 := Int.mul_le_mul_of_nonneg_right (by omega) (by decide)
    rw [Int.mul_comm W4]
    rw [Int.add_mul, Int.one_mul] at this
    unfold W4 at *
    omega
  exact ⟨_, c_trdiv hst hA ht hy hlt, vNat_is e1 e2 hK⟩
theorem s_Tr : Sound Tryz.prog Φ ΓTr := Sound.econs (h_add trivial) (Sound.qcons (by kernel_rfl) (h_mul hst) (Sound.qcons (by kernel_rfl) (h_trdiv hst) Sound.nil))
theorem s_Tl : Sound Tryz.prog Φ ΓTl := Sound.qcons (by kernel_rfl) (h_trmul hst) (Sound.qcons (by kernel_rfl) (h_trsub hst) (Sound.qcons (by kernel_rfl) (h_trdiv hst) Sound.nil))
omit hst in
/-- One word of a number, times a word, and the carry. -/
theorem word {x y h l C s d : Int} (hm : MulR x y h l) (h1 : AddR l C 0 s d) (hC : U64 C) : ∃ c, IntKind.u64.wrap (h + d) = c ∧ U64 c ∧ U64 s ∧ x * y + C = c * 18446744073709551616 + s := by
  obtain ⟨a1, a2, a3, a4, a5, a6⟩ := hm
  obtain ⟨b1, b2, b3⟩ := h1
  have b2 := bit_lt b2
  unfold U64 at *
  generalize x * y = p at *
  have e1 : IntKind.u64.wrap (h + d) = h + d := wrap_u64 (by omega)
  exact ⟨h + d, e1, by omega, b1, by omega⟩
omit hst in
theorem radI_lt {n : Int} (h0 : 0 ≤ n) (h1 : n ≤ 2700000) : 0 ≤ radI n ∧ radI n < W4 := by
  unfold radI piI W4
  omega
theorem c_trrad (n : Int) (h0 : 0 ≤ n) (h1 : n ≤ 2700000) : Ans Tryz.prog Φ 92 [.int .i64 n] (vNat (radI n)) := by
  refine fn_by hst (s_Tr hst) (vc_trrad n _) ?_
  have wn : IntKind.u64.wrap n = n := wrap_u64 (by omega)
  rw [wn]
  have un : U64 n := ⟨h0, by omega⟩
  have lit : ∀ k : Int, 0 ≤ k → k < 18446744073709551616 → U64 k := fun k a b => ⟨a, b⟩
  refine ⟨⟨lit _ (by decide) (by decide), un⟩, fun a1 l1 m1 => ⟨⟨m1.2.1, u0, bit0⟩, fun s1 d1 f1 => ⟨⟨lit _ (by decide) (by decide), un⟩, ?_⟩⟩⟩
  obtain ⟨C1, w1, v1, us1, p1⟩ := word m1 f1 u0
  rw [w1]
  refine fun a2 l2 m2 => ⟨⟨m2.2.1, v1, bit0⟩, fun s2 d2 f2 => ⟨⟨lit _ (by decide) (by decide), un⟩, ?_⟩⟩
  obtain ⟨C2, w2, v2, us2, p2⟩ := word m2 f2 v1
  rw [w2]
  refine fun a3 l3 m3 => ⟨⟨m3.2.1, v2, bit0⟩, fun s3 d3 f3 => ⟨⟨lit _ (by decide) (by decide), un⟩, ?_⟩⟩
  obtain ⟨C3, w3, v3, us3, p3⟩ := word m3 f3 v2
  rw [w3]
  refine fun a4 l4 m4 => ⟨⟨m4.2.1, v3, bit0⟩, fun s4 d4 f4 => ?_⟩
  obtain ⟨C4, w4, v4, us4, p4⟩ := word m4 f4 v3
  rw [w4]
  have wt : IntKind.u64.wrap (3 * n) = 3 * n := wrap_u64 (by omega)
  obtain ⟨_, v10⟩ := v1
  obtain ⟨_, v20⟩ := v2
  obtain ⟨_, v30⟩ := v3
  obtain ⟨v41, v40⟩ := v4
  obtain ⟨us11, us10⟩ := us1
  obtain ⟨us21, us20⟩ := us2
  obtain ⟨us31, us30⟩ := us3
  obtain ⟨us41, us40⟩ := us4
  have C4n : C4 ≤ n := by omega
  have ws : IntKind.u64.wrap (C4 + 3 * n) = C4 + 3 * n := wrap_u64 (by omega)
  have tm : (C4 + 3 * n).tmod 10800000 = C4 + 3 * n := by rw [Int.tmod_eq_emod_of_nonneg (by omega)]; omega
  rw [wt, ws, tm]
  have uS : U4 s4 s3 s2 s1 := ⟨⟨us41, us40⟩, ⟨us31, us30⟩, ⟨us21, us20⟩, us11, us10⟩
  refine ⟨⟨uS, ⟨by omega, by omega⟩, ⟨by decide, by decide⟩, by omega⟩, fun e f g h hi => ?_⟩
  have e1 : (C4 + 3 * n) * W4 + nval s4 s3 s2 s1 = piI * n := by
    unfold nval W4 piI
    omega
  rw [e1] at hi
  exact isN_v hi
theorem h_trrad : ∀ args p Q, qRad args = some (p, Q) → p → ∀ K, Q K → ∃ v, Ans Tryz.prog Φ 92 args v ∧ K v := by
  intro args p Q h hp K hK
  unfold qRad at h
  split at h <;> cases h
  have l := radI_lt hp.1 hp.2
  exact ⟨_, c_trrad hst _ hp.1 hp.2, vNat_is l.1 l.2 hK⟩
omit hst in
theorem lessI_lt (Y o : Int) : ∀ k {u : Int}, 0 ≤ u → u < W4 → 0 ≤ lessI Y o k u ∧ lessI Y o k u < W4
  | 0, u, h0, h1 => ⟨h0, h1⟩
  | k + 1, u, _, _ => lessI_lt Y o k (Int.emod_nonneg _ (by decide)) (Int.emod_lt_of_pos _ (by decide))
theorem c_trless {a b c d o : Int} (hA : U4 a b c d) (ho : Bit o) : Ans Tryz.prog Φ 95 [vN a b c d, .int .u64 o] (vNat (lessI (mulI (nval a b c d) (nval a b c d)) o 34 0)) := by
  refine fn_by hst (s_Tl hst) (vc_trless a b c d o _) ?_
  have hb := bit_lt ho
  refine ⟨⟨hA, hA⟩, fun e f g h hY => ⟨⟨34, 0, 0, 0, 0⟩, ⟨rfl, rfl, rfl, rfl, rfl, rfl, rfl, rfl, rfl, rfl, rfl, rfl, rfl, rfl, rfl, rfl, rfl, rfl, trivial⟩, ⟨Nat.le_refl _, ⟨u0, u0, u0, u0⟩, rfl⟩, fun s hs => ?_⟩⟩
  obtain ⟨k, s1, s2, s3, s4⟩ := s
  obtain ⟨hk, us, eq⟩ := hs
  dsimp only at *
  refine bcase_iff.mpr ⟨fun q => ?_, fun q => ?_⟩
  · have q := of_decide_eq_true q
    obtain ⟨k, rfl⟩ : ∃ j, k = j + 1 := ⟨k - 1, by omega⟩
    have wd : IntKind.u64.wrap (IntKind.u64.wrap (IntKind.u64.wrap (IntKind.u64.wrap (2 * ((k + 1 : Nat) : Int)) - 1) + o) * IntKind.u64.wrap (IntKind.u64.wrap (2 * ((k + 1 : Nat) : Int)) + o)) = (2 * k + 1 + o) * (2 * k + 2 + o) := by
      rw [wrap_u64 (n := 2 * ((k + 1 : Nat) : Int)) (by omega), wrap_u64 (n := 2 * ((k + 1 : Nat) : Int) - 1) (by omega), wrap_u64 (n := 2 * ((k + 1 : Nat) : Int) - 1 + o) (by omega), wrap_u64 (n := 2 * ((k + 1 : Nat) : Int) + o) (by omega)]
      have e1 : 2 * ((k + 1 : Nat) : Int) - 1 + o = 2 * k + 1 + o := by omega
      have e2 : 2 * ((k + 1 : Nat) : Int) + o = 2 * k + 2 + o := by omega
      rw [e1, e2]
      refine wrap_u64 ⟨Int.mul_nonneg (by omega) (by omega), ?_⟩
      have : (2 * k + 1 + o) * (2 * k + 2 + o) ≤ 100 * 100 := Int.mul_le_mul (by omega) (by omega) (by omega) (by decide)
      omega
    rw [wd]
    have dp : 0 < (2 * (k : Int) + 1 + o) * (2 * k + 2 + o) := Int.mul_pos (by omega) (by omega)
    have dl : (2 * (k : Int) + 1 + o) * (2 * k + 2 + o) ≤ 100 * 100 := Int.mul_le_mul (by omega) (by omega) (by omega) (by decide)
    refine ⟨⟨hY.1, u0, ⟨by omega, by omega⟩, dp⟩, fun e1 f1 g1 h1 hq => ⟨⟨hq.1, us⟩, fun e2 f2 g2 h2 hm => ⟨⟨hq.1, hm.1⟩, fun e3 f3 g3 h3 hu => ⟨⟨k, e3, f3, g3, h3⟩, ⟨rfl, ?_, rfl, rfl, rfl, rfl, rfl, rfl, rfl, rfl, rfl, rfl, rfl, rfl, rfl, rfl, rfl, rfl, trivial⟩, ⟨by dsimp only; omega, hu.1, ?_⟩, by dsimp only; omega⟩⟩⟩⟩
    · show IntKind.u64.wrap (((k + 1 : Nat) : Int) - 1) = (k : Int)
      rw [wrap_u64 (by omega)]; omega
    · rw [← eq, hu.2, hm.2, hq.2, hY.2, Int.zero_mul, Int.zero_add]
      rfl
  · have q := of_decide_eq_false q
    obtain rfl : k = 0 := by omega
    refine isN_v ⟨us, ?_⟩
    exact eq
theorem h_trless : ∀ args p Q, qLess args = some (p, Q) → p → ∀ K, Q K → ∃ v, Ans Tryz.prog Φ 95 args v ∧ K v := by
  intro args p Q h hp K hK
  unfold qLess at h
  split at h <;> cases h
  rename_i a b c d o
  have l := lessI_lt (mulI (nval a b c d) (nval a b c d)) o 34 (Int.le_refl 0) (by decide)
  exact ⟨_, c_trless hst hp.1 hp.2, vNat_is l.1 l.2 hK⟩
theorem s_Tn : Sound Tryz.prog Φ ΓTn := Sound.qcons (by kernel_rfl) (h_trmul hst) (Sound.qcons (by kernel_rfl) (h_trsub hst) (Sound.qcons (by kernel_rfl) (h_trrad hst) (Sound.qcons (by kernel_rfl) (h_trless hst) Sound.nil)))
omit hst in
theorem top_word {n e f g h : Int} (hi : IsN n e f g h) : IntKind.i64.wrap (e.fdiv (2 ^ 34)) = n / 107839786668602559178668060348078522694548577690162289924414440996864 := by
  obtain ⟨⟨⟨a0, a1⟩, ⟨b0, b1⟩, ⟨c0, c1⟩, d0, d1⟩, rfl⟩ := hi
  rw [Int.fdiv_eq_ediv_of_nonneg _ (by decide)]
  have : (2 : Int) ^ 34 = 17179869184 := by decide
  rw [this, wrap_in (by omega)]
  unfold nval
  omega
theorem c_trsine (n : Int) (h0 : 0 ≤ n) (h1 : n ≤ 5400000) : Ans Tryz.prog Φ 79 [.int .i64 n] (pair (.int .i64 (sinP n)) (.bool (exB n))) := by
  refine fn_by hst (s_Tn hst) (vc_trsine n _) ?_
  unfold sinP exB
  refine bcase_iff.mpr ⟨fun q => ?_, fun q => bcase_iff.mpr ⟨fun q2 => ?_, fun q2 => bcase_iff.mpr ⟨fun q3 => ?_, fun q3 => ?_⟩⟩⟩
  · have q := eq_of_beq q
    subst q
    rfl
  · have q2 := eq_of_beq q2
    subst q2
    rfl
  · have q3 := eq_of_beq q3
    subst q3
    rfl
  rw [q, q2, q3, if_neg (ne_of_beq_false q), if_neg (ne_of_beq_false q2), if_neg (ne_of_beq_false q3)]
  have w1 : IntKind.i64.wrap (2 * n) = 2 * n := wrap_in (by omega)
  have w2 : IntKind.i64.wrap (5400000 - n) = 5400000 - n := wrap_in (by omega)
  rw [w1, w2]
  refine bcase_iff.mpr ⟨fun q4 => ?_, fun q4 => ?_⟩
  · have q4 := of_decide_eq_true q4
    rw [if_pos q4]
    refine ⟨⟨h0, by omega⟩, fun e f g h hx => ⟨⟨hx.1, .inr rfl⟩, fun e1 f1 g1 h1 hl => ⟨⟨hx.1, hl.1⟩, fun e2 f2 g2 h2 hm => ⟨⟨hx.1, hm.1⟩, fun e3 f3 g3 h3 hs => ?_⟩⟩⟩⟩
    rw [top_word hs, hm.2, hl.2, hx.2]
    rfl
  · have q4 := of_decide_eq_false q4
    rw [if_neg q4]
    refine ⟨⟨by omega, by omega⟩, fun e f g h hx => ⟨⟨hx.1, bit0⟩, fun e1 f1 g1 h1 hl => ⟨⟨⟨u0, u0, u0, u0⟩, hl.1⟩, fun e3 f3 g3 h3 hs => ?_⟩⟩⟩
    rw [top_word hs, hl.2, hx.2]
    rfl
end Go.Proofs.YtidhogcijghogaaGreatDoor
