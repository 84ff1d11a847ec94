/- What the functions of the program's numbers with 256 digits answer. -/
import Derived.Test.YtikbpleaaaeibaaGreatSpecW
namespace Go.Proofs.YtikbpleaaaeibaaGreat
open Go Go.Abs Go.RowKit
set_option linter.unusedVariables false
/-- A number: its four words. -/
abbrev vN (a b c d : Int) : Value := .agg ⟨[.int .u64 a, .int .u64 b, .int .u64 c, .int .u64 d]⟩
def nval (a b c d : Int) : Int := a * 6277101735386680763835789423207666416102355444464034512896 + b * 340282366920938463463374607431768211456 + c * 18446744073709551616 + d
def U4 (a b c d : Int) : Prop := U64 a ∧ U64 b ∧ U64 c ∧ U64 d
def Bit (c : Int) : Prop := c = 0 ∨ c = 1
/-- The first word of a product is less than the greatest word. -/
def MulR (x y h l : Int) : Prop := U64 h ∧ U64 l ∧ h < 18446744073709551615 ∧ x * y = h * 18446744073709551616 + l ∧ 0 ≤ x * y ∧ x * y ≤ 340282366920938463426481119284349108225
def AddR (x y c s d : Int) : Prop := U64 s ∧ Bit d ∧ x + y + c = d * 18446744073709551616 + s
def SubR (x y c s d : Int) : Prop := U64 s ∧ Bit d ∧ x - y - c = s - d * 18446744073709551616
def DivR (h l y q r : Int) : Prop := U64 q ∧ 0 ≤ r ∧ r < y ∧ h * 18446744073709551616 + l = q * y + r
def qMul64 : QSpec := fun | [.int .u64 x, .int .u64 y] => some (U64 x ∧ U64 y, fun K => ∀ h l, MulR x y h l → K (pair (.int .u64 h) (.int .u64 l))) | _ => none
def eAdd64 : QSpec := fun | [.int .u64 x, .int .u64 y, .int .u64 c] => some (U64 x ∧ U64 y ∧ Bit c, fun K => ∀ s d, AddR x y c s d → K (pair (.int .u64 s) (.int .u64 d))) | _ => none
def eSub64 : QSpec := fun | [.int .u64 x, .int .u64 y, .int .u64 c] => some (U64 x ∧ U64 y ∧ Bit c, fun K => ∀ s d, SubR x y c s d → K (pair (.int .u64 s) (.int .u64 d))) | _ => none
def qDiv64 : QSpec := fun | [.int .u64 h, .int .u64 l, .int .u64 y] => some (U64 h ∧ U64 l ∧ U64 y ∧ h < y, fun K => ∀ q r, DivR h l y q r → K (pair (.int .u64 q) (.int .u64 r))) | _ => none
def ΓTs : List (FuncId × CSpec) := [(106, .e eSub64)]
def ΓTm : List (FuncId × CSpec) := [(104, .e eAdd64), (73, .q qMul64)]
def ΓTd : List (FuncId × CSpec) := [(95, .q qDiv64)]
def four : FuncId → List (Nat × LoopBy) := fun _ => [(0, .times 5)]
/-- The weight of a place. -/
def wt : Int → Int | 3 => 340282366920938463463374607431768211456 | 2 => 6277101735386680763835789423207666416102355444464034512896 | 1 => 115792089237316195423570985008687907853269984665640564039457584007913129639936 | _ => 2135987035920910082395021706169552114602704522356652769947041607822219725780640550022962086936576
def six (a b c d e f : Int) : Int := a * 2135987035920910082395021706169552114602704522356652769947041607822219725780640550022962086936576 + b * 115792089237316195423570985008687907853269984665640564039457584007913129639936 + c * 6277101735386680763835789423207666416102355444464034512896 + d * 340282366920938463463374607431768211456 + e * 18446744073709551616 + f
structure Six where
  a : Int
  b : Int
  c : Int
  d : Int
  e : Int
  f : Int
  g : Int
structure SixR (i A B C D E F G a b c d e f g : Int) : Prop where
  ua : U64 a
  ub : U64 b
  uc : U64 c
  ud : U64 d
  ue : U64 e
  uf : U64 f
  ug : U64 g
  sum : ∃ k, 0 ≤ k ∧ six a b c d e f + k * 39402006196394479212279040100143613805079739270465446667948293404245721771497210611414266254884915640806627990306816 = six A B C D E F + G * wt i
/-- Behind the loop that hands a carry on. -/
def joinMul : Ann where
  σ := Six
  st := fun s x => ⟨lset (keepA s 87 [2, 3, 4, 5, 6]) 7 (.v (.int .u64 x.g)), setCs s 3 [.v (.int .u64 x.a), .v (.int .u64 x.b), .v (.int .u64 x.c), .v (.int .u64 x.d), .v (.int .u64 x.e), .v (.int .u64 x.f)]⟩
  inv := fun s x => SixR (intA s 6) (cellI s 3 0) (cellI s 3 1) (cellI s 3 2) (cellI s 3 3) (cellI s 3 4) (cellI s 3 5) (intA s 7) x.a x.b x.c x.d x.e x.f x.g
  μ := fun _ _ => 0
def AMul : FuncId → List (Nat × LoopBy) := fun _ => [(0, .times 5), (2, .times 5), (4, .timesJ 5 joinMul)]
end Go.Proofs.YtikbpleaaaeibaaGreat
