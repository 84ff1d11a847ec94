/- What the functions of dip, and of its reference, answer. -/
import Derived.Test.YtofnffcdbbiohaaDoorProg
import Derived.Test.YtofnffcdbbiohaaDoorAbs
import Derived.Test.YtofnffcdbbiohaaDoorBase
import Derived.Test.YtofnffcdbbiohaaDoorDpStrs
namespace Go.Proofs.YtofnffcdbbiohaaDoor.Dp
open Go Go.Abs Go.RowKit
set_option linter.unusedVariables false
instance (n : Int) : Decidable (I64 n) := by unfold I64; infer_instance
def Fit (n : Int) : Prop := -1099511627776 ≤ n ∧ n ≤ 1099511627776
instance (n : Int) : Decidable (Fit n) := by unfold Fit; infer_instance
def Val (a b : Int) : Prop := a ≤ b ∧ -1099511627776 ≤ a ∧ b ≤ 1099511627776
instance (a b : Int) : Decidable (Val a b) := by unfold Val; infer_instance
abbrev arc (a b : Int) : Value := .agg ⟨[.int .i64 a, .int .i64 b]⟩
abbrev pair (a b : Value) : Value := .tuple ⟨[a, b]⟩
abbrev num (n : Int) : Value := .int .i64 n
def Den (d : Int) : Prop := 1 ≤ d ∧ d ≤ 9223372036854775807
def pick (c : Prop) [Decidable c] (x y : Int) : Int := if c then x else y
def gate (c : Prop) [Decidable c] (x : Int) : Int := if c then x else 0
def sFits : FSpec := fun | [.int .i64 n] => some (True, .bool (decide (Fit n))) | _ => none
def sVal : FSpec := fun | [.agg ⟨[.int .i64 a, .int .i64 b]⟩] => some (True, .bool (decide (Val a b))) | _ => none
def sFloor : FSpec := fun | [.int .i64 n, .int .i64 d] => some (I64 n ∧ Den d, num (n / d)) | _ => none
def sCeil : FSpec := fun | [.int .i64 n, .int .i64 d] => some (I64 n ∧ Den d ∧ I64 (-(-n / d)), num (-(-n / d))) | _ => none
def sQuot : FSpec := fun | [.int .i64 n, .int .i64 d] => some (I64 n ∧ I64 (-n) ∧ Den d ∧ I64 (-(-n / d)), arc (n / d) (-(-n / d))) | _ => none
def sAdd5 : FSpec := fun | [.agg ⟨[.int .i64 a, .int .i64 b]⟩, .agg ⟨[.int .i64 c, .int .i64 d]⟩] => some (I64 (a + c) ∧ I64 (b + d), arc (a + c) (b + d)) | _ => none
/-! Texts of angles. -/
def textL (n : Int) : List UInt8 := if n < 0 then 45 :: coreL n.natAbs else coreL n.natAbs
def textB (n : Int) : ByteArray := ⟨(textL n).toArray⟩
def rnd (n : Int) : Int := (n + 50) / 100 * 100
def sTextI : FSpec := fun | [.int .i64 n] => some (Fit n, .string (textB n)) | _ => none
def printL (a b : Int) : List UInt8 := if rnd a = rnd b then textL (rnd a) else textL (rnd a) ++ [32, 46, 46, 32] ++ textL (rnd b)
def prints (a b : Int) : Prop := Val a b ∧ Fit (rnd a) ∧ Fit (rnd b)
instance (a b : Int) : Decidable (prints a b) := by unfold prints; infer_instance
def printB (a b : Int) : ByteArray := ⟨(if prints a b then printL a b else []).toArray⟩
def sPrint : FSpec := fun | [.agg ⟨[.int .i64 a, .int .i64 b]⟩] => some (True, pair (.string (printB a b)) (num (pick (Val a b) (pick (Fit (rnd a) ∧ Fit (rnd b)) 0 5) 1))) | _ => none
def digB (n k : Int) : ByteArray := ⟨(digL n.toNat k.toNat).toArray⟩
def DgOk (n k : Int) : Prop := 0 ≤ n ∧ n ≤ 1099511627776 ∧ 0 ≤ k ∧ k ≤ 9
def sDigits : FSpec := fun | [.int .i64 n, .int .i64 k] => some (DgOk n k, .string (digB n k)) | _ => none
def sRound : FSpec := fun | [.int .i64 n] => some (-2199023255552 ≤ n ∧ n ≤ 2199023255552, num (rnd n)) | _ => none
def sPrint5 : FSpec := fun | [.agg ⟨[.int .i64 a, .int .i64 b]⟩] => some (Val a b, pair (.string (printB a b)) (num (pick (Fit (rnd a) ∧ Fit (rnd b)) 0 5))) | _ => none
def itoaB (n : Int) : ByteArray := ⟨(Lib.itoa n).toArray⟩
def sItoa : FSpec := fun | [.int .i64 n] => some (I64 n, .string (itoaB n)) | _ => none
def DecOk (k : Nat) (n : Int) : Prop := I64 n ∧ n.natAbs < 10 ^ k ∧ k ≠ 0
def sDec (k : Nat) : FSpec := fun | [.int .i64 n] => some (DecOk k n, .string (itoaB n)) | _ => none
/-! Roots. -/
def rootI : Nat → Int → Int → Int
  | 0, _, r => r
  | n + 1, v, r => if (r + 2 ^ n) * (r + 2 ^ n) ≤ v then rootI n v (r + 2 ^ n) else rootI n v r
def sqI (v : Int) : Int := rootI 31 v 0
def rUp (v : Int) : Int := if sqI v * sqI v < v then sqI v + 1 else sqI v
def Rt (f n : Int) : Prop := 0 ≤ f ∧ f ≤ 208 ∧ 0 ≤ n ∧ n ≤ 1000000
instance (f n : Int) : Decidable (Rt f n) := by unfold Rt; infer_instance
def sRootD : FSpec := fun | [.int .i64 f, .int .i64 n] => some (Rt f n, arc (sqI (f * f * n)) (rUp (f * f * n))) | _ => none
def sIsq : FSpec := fun | [.int .i64 n] => some (0 ≤ n ∧ n ≤ 1152921504606846976, num (sqI n)) | _ => none
def Eye (n : Int) : Prop := 0 ≤ n ∧ n ≤ 10000
instance (n : Int) : Decidable (Eye n) := by unfold Eye; infer_instance
def Hgt (n : Int) : Prop := 0 ≤ n ∧ n ≤ 1000000
instance (n : Int) : Decidable (Hgt n) := by unfold Hgt; infer_instance
def dLo (n : Int) : Int := sqI (176 * 176 * n)
def dHi (n : Int) : Int := rUp (176 * 176 * n)
def hLo (n : Int) : Int := sqI (208 * 208 * n)
def hHi (n : Int) : Int := rUp (208 * 208 * n)
def sEye : FSpec := fun | [.int .i64 n] => some (True, .bool (decide (Eye n))) | _ => none
def sDip : FSpec := fun | [.int .i64 n] => some (True, pair (arc (gate (Eye n) (dLo n)) (gate (Eye n) (dHi n))) (num (pick (Eye n) 0 2))) | _ => none
def okS (e d : Int) : Prop := Eye e ∧ 1 ≤ d ∧ d ≤ 100000
instance (e d : Int) : Decidable (okS e d) := by unfold okS; infer_instance
def nS (e d : Int) : Int := 131953 * d * d + 5893750000 * e
def sLo (e d : Int) : Int := nS e d / (317500 * d)
def sHi (e d : Int) : Int := -(-nS e d / (317500 * d))
def sShort : FSpec := fun | [.int .i64 e, .int .i64 d] => some (True, pair (arc (gate (okS e d) (sLo e d)) (gate (okS e d) (sHi e d))) (num (pick (okS e d) 0 2))) | _ => none
def sHorizon : FSpec := fun | [.int .i64 n] => some (True, pair (arc (gate (Hgt n) (hLo n)) (gate (Hgt n) (hHi n))) (num (pick (Hgt n) 0 2))) | _ => none
def okV (e h : Int) : Prop := Eye e ∧ Hgt h
instance (e d : Int) : Decidable (okV e d) := by unfold okV; infer_instance
def sVisible : FSpec := fun | [.int .i64 e, .int .i64 h] => some (True, pair (arc (gate (okV e h) (hLo e + hLo h)) (gate (okV e h) (hHi e + hHi h))) (num (pick (okV e h) 0 2))) | _ => none
/-! The table. -/
def lineB (n : Int) : ByteArray := itoaB n ++ ⟨[32].toArray⟩ ++ printB (dLo n) (dHi n)
def AllEye (xs : List Int) : Prop := ∀ x ∈ xs, Eye x
instance (xs : List Int) : Decidable (AllEye xs) := by unfold AllEye; infer_instance
def okTab (xs : List Int) : Prop := xs.length ≤ 1000 ∧ AllEye xs
instance (xs : List Int) : Decidable (okTab xs) := by unfold okTab; infer_instance
def tabL (xs : List Int) : List ByteArray := if okTab xs then xs.map lineB else []
def tabE (xs : List Int) : Int := if 1000 < xs.length then 4 else pick (AllEye xs) 0 2
abbrev iR (l : List Int) : CD := .r 3 (.int .i64) l
abbrev bR (l : List ByteArray) : CD := .r 9 .str l
def sTab : RSpec := fun | [.one (.r 3 (.int .i64) xs)] => some ((∀ x ∈ xs, I64 x) ∧ xs.length ≤ 9223372036854775807, [.one (bR (tabL xs)), .one (.v (num (tabE xs)))]) | _ => none
def sEqS : RSpec := fun | [.one (.r 9 .str xs), .one (.r 9 .str ys)] => some (xs.length ≤ 9223372036854775807 ∧ ys.length ≤ 9223372036854775807, [.one (.v (.bool (decide (xs = ys))))]) | _ => none
end Go.Proofs.YtofnffcdbbiohaaDoor.Dp
