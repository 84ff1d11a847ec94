/- What the functions of wide answer. -/
import Derived.Test.YtidhogcijghogaaGreatDoorProg
import Derived.Test.YtidhogcijghogaaGreatDoorAbs
import Derived.Test.YtidhogcijghogaaGreatDoorBase
import Derived.Lib.BitFns
namespace Go.Proofs.YtidhogcijghogaaGreatDoor
open Go Go.Abs Go.RowKit
set_option linter.unusedVariables false

instance (n : Int) : Decidable (I64 n) := by unfold I64; infer_instance
abbrev wid (a b : Int) : Value := .agg ⟨[.int .i64 a, .int .i64 b]⟩
abbrev pair (a b : Value) : Value := .tuple ⟨[a, b]⟩
abbrev num (n : Int) : Value := .int .i64 n
def gate (c : Prop) [Decidable c] (x : Int) : Int := if c then x else 0
def pick (c : Prop) [Decidable c] (x y : Int) : Int := if c then x else y
/-- A valid wide integer. -/
def WV (h l : Int) : Prop := -1152921504606846976 ≤ h ∧ h < 1152921504606846976 ∧ 0 ≤ l ∧ l < 1152921504606846976
instance (h l : Int) : Decidable (WV h l) := by unfold WV; infer_instance
/-- It fits into 120 bits and a sign. -/
def F120 (v : Int) : Prop := -1329227995784915872903807060280344576 ≤ v ∧ v < 1329227995784915872903807060280344576
instance (v : Int) : Decidable (F120 v) := by unfold F120; infer_instance
/-- The value. -/
def val (h l : Int) : Int := h * 1152921504606846976 + l
def Small (n : Int) : Prop := -4611686018427387904 ≤ n ∧ n ≤ 4611686018427387904
def U64 (n : Int) : Prop := 0 ≤ n ∧ n < 18446744073709551616
def hiO (v : Int) : Int := v / 1152921504606846976
def loO (v : Int) : Int := v % 1152921504606846976
/-- The answer: the wide integer of a value, or the error 5. -/
abbrev wAns (v : Int) : Value := pair (wid (gate (F120 v) (hiO v)) (gate (F120 v) (loO v))) (num (pick (F120 v) 0 5))
def sWValid : FSpec := fun | [.agg ⟨[.int .i64 a, .int .i64 b]⟩] => some (True, .bool (decide (WV a b))) | _ => none
def sWOf : FSpec := fun | [.int .i64 n] => some (I64 n, wid (hiO n) (loO n)) | _ => none
def sWFit : FSpec := fun | [.int .i64 a, .int .i64 b] => some (Small a ∧ Small b, wAns (val a b)) | _ => none
def two (a b c d : Int) : Prop := WV a b ∧ WV c d
instance (a b c d : Int) : Decidable (two a b c d) := by unfold two; infer_instance
def ok2 (a b c d v : Int) : Prop := WV a b ∧ WV c d ∧ F120 v
instance (a b c d v : Int) : Decidable (ok2 a b c d v) := by unfold ok2; infer_instance
abbrev aAns (a b c d v : Int) : Value := pair (wid (gate (ok2 a b c d v) (hiO v)) (gate (ok2 a b c d v) (loO v))) (num (pick (two a b c d) (pick (F120 v) 0 5) 1))
abbrev AA (f : Int → Int → Int → Int → Option (Prop × Value)) : FSpec := fun | [.agg ⟨[.int .i64 a, .int .i64 b]⟩, .agg ⟨[.int .i64 c, .int .i64 d]⟩] => f a b c d | _ => none
def sWAdd : FSpec := AA fun a b c d => some (True, aAns a b c d (val a b + val c d))
def sWSub : FSpec := AA fun a b c d => some (True, aAns a b c d (val a b - val c d))
def ordI (x y : Int) : Int := if x < y then -1 else if y < x then 1 else 0
def sWCmp : FSpec := AA fun a b c d => some (True, pair (num (gate (two a b c d) (ordI (val a b) (val c d)))) (num (pick (two a b c d) 0 1)))
def absI (n : Int) : Int := if n < 0 then -n else n
def sWAbs : FSpec := fun | [.int .i64 n] => some (I64 n, .int .u64 (absI n)) | _ => none
abbrev siz (h l : Int) (n : Bool) : Value := .agg ⟨[.int .u64 h, .int .u64 l, .bool n]⟩
def sWSizeOf : FSpec := fun | [.agg ⟨[.int .i64 a, .int .i64 b]⟩] => some (WV a b, siz (absI (val a b) / 18446744073709551616) (absI (val a b) % 18446744073709551616) (decide (val a b < 0))) | _ => none
/-- The value of a size. -/
def sval (h l : Int) (n : Bool) : Int := if n then -(h * 18446744073709551616 + l) else h * 18446744073709551616 + l
def sWWide : FSpec := fun | [.agg ⟨[.int .u64 h, .int .u64 l, .bool n]⟩] => some (U64 h ∧ U64 l, wAns (sval h l n)) | _ => none
def sMul64 : FSpec := fun | [.int .u64 x, .int .u64 y] => some (U64 x ∧ U64 y, pair (.int .u64 (x * y / 18446744073709551616)) (.int .u64 (x * y % 18446744073709551616))) | _ => none
def sDiv64 : FSpec := fun | [.int .u64 h, .int .u64 l, .int .u64 d] => some (U64 h ∧ U64 l ∧ U64 d ∧ h < d, pair (.int .u64 ((h * 18446744073709551616 + l) / d)) (.int .u64 ((h * 18446744073709551616 + l) % d))) | _ => none
def sWProduct : FSpec := fun | [.int .i64 a, .int .i64 b] => some (I64 a ∧ I64 b, wAns (a * b)) | _ => none
def okI (h l : Int) : Prop := WV h l ∧ I64 (val h l)
instance (h l : Int) : Decidable (okI h l) := by unfold okI; infer_instance
def sWInt : FSpec := fun | [.agg ⟨[.int .i64 a, .int .i64 b]⟩] => some (True, pair (num (gate (okI a b) (val a b))) (num (pick (WV a b) (pick (I64 (val a b)) 0 5) 1))) | _ => none
/-- A quotient, rounded down or up. -/
def quoI (v b : Int) (up : Bool) : Int := if up then -((-v).fdiv b) else v.fdiv b
def okQ (h l b : Int) (up : Bool) : Prop := WV h l ∧ b ≠ 0 ∧ I64 (quoI (val h l) b up)
instance (h l b : Int) (up : Bool) : Decidable (okQ h l b up) := by unfold okQ; infer_instance
abbrev qAns (h l b : Int) (up : Bool) : Value := pair (num (gate (okQ h l b up) (quoI (val h l) b up))) (num (pick (WV h l) (pick (b = 0) 16 (pick (I64 (quoI (val h l) b up)) 0 5)) 1))
def sWQuotient : FSpec := fun | [.agg ⟨[.int .i64 h, .int .i64 l]⟩, .int .i64 b, .bool up] => some (I64 b, qAns h l b up) | _ => none
def sWFloor : FSpec := fun | [.agg ⟨[.int .i64 h, .int .i64 l]⟩, .int .i64 b] => some (I64 b, qAns h l b false) | _ => none
def sWCeil : FSpec := fun | [.agg ⟨[.int .i64 h, .int .i64 l]⟩, .int .i64 b] => some (I64 b, qAns h l b true) | _ => none
/-- The root of a number that is not negative. -/
def rootI : Nat → Int → Int → Int
  | 0, _, r => r
  | n + 1, v, r => if (r + 2 ^ n) * (r + 2 ^ n) ≤ v then rootI n v (r + 2 ^ n) else rootI n v r
def okR (h l : Int) : Prop := WV h l ∧ 0 ≤ h
instance (h l : Int) : Decidable (okR h l) := by unfold okR; infer_instance
def sWRoot : FSpec := fun | [.agg ⟨[.int .i64 h, .int .i64 l]⟩] => some (True, pair (num (gate (okR h l) (rootI 61 (val h l) 0))) (num (pick (WV h l) (pick (0 ≤ h) 0 2) 1))) | _ => none
def sCompare : FSpec := fun | [.int .i64 a, .int .i64 b] => some (True, .int .i64 (ordI a b)) | _ => none
/-- The first that is not 0. -/
def firstNZ : List Int → Int
  | [] => 0
  | x :: l => if x ≠ 0 then x else firstNZ l
def sOr : RSpec := fun | [.one (.r 3 (.int .i64) xs)] => some (xs.length < 100, [.one (.v (.int .i64 (firstNZ xs)))]) | _ => none
/-- cmp.Or's loop: all before are 0. -/
def annOr (xs : List Int) : Ann where
  σ := Nat
  st := fun s i => ⟨lset (keepA s 18 [0, 3, 6, 7]) 8 (.v (.int .i64 i)), s.hp⟩
  inv := fun _ i => i ≤ xs.length ∧ firstNZ xs = firstNZ (xs.drop i)
  μ := fun _ i => xs.length - i
def AOr (xs : List Int) : FuncId → List (Nat × LoopBy) := fun _ => [(0, .ann (annOr xs))]
def ΓC : List (FuncId × CSpec) := [(97, .v sWValid)]
/-- The bit that is tried when so many are still to come. -/
def bitP : Nat → Int
  | 0 => 0
  | k + 1 => 2 ^ k
/-- The root's loop: the root so far, and how many bits are still to come. -/
def annRoot (V : Int) : Ann where
  σ := Int × Nat
  st := fun s x => ⟨lset (lset (keepA s 54 [4]) 5 (.v (.int .u64 x.1))) 6 (.v (.int .u64 (bitP x.2))), s.hp⟩
  inv := fun _ x => x.2 ≤ 61 ∧ 0 ≤ x.1 ∧ x.1 + 2 ^ x.2 ≤ 2 ^ 61 ∧ rootI x.2 V x.1 = rootI 61 V 0
  μ := fun _ x => x.2
def ARoot (V : Int) : FuncId → List (Nat × LoopBy) := fun _ => [(1, .ann (annRoot V))]
/-- The zeros ahead of a word. -/
def lzI (y : Int) : Int := 64 - (Lib.bitLen y.toNat : Int)
def sLz64 : FSpec := fun | [.int .u64 y] => some (U64 y, .int .i64 (lzI y)) | _ => none
def ΓD : List (FuncId × CSpec) := [(120, .v sLz64)]
/-- One digit of a quotient: what holds at the head of the loop that corrects it. -/
structure Dig (yn1 yn0 un u1 q r : Int) : Prop where
  sum : q * yn1 + r = un
  r0 : 0 ≤ r
  r1 : r < 4294967296
  q0 : 0 ≤ q
  q1 : q ≤ 4294967297
  least : un * 4294967296 + u1 < (q + 1) * (yn1 * 4294967296 + yn0)
def digI (yn1 yn0 un u1 : Int) : Int := (un * 4294967296 + u1) / (yn1 * 4294967296 + yn0)
def annDig (t q u : Nat) : Ann where
  σ := Int × Int
  st := fun s x => ⟨lset (lset (keepA s 135 [2, 8, 9, 10, 11, 13, 14, 15, 17]) q (.v (.int .u64 x.1))) 16 (.v (.int .u64 x.2)), s.hp⟩
  inv := fun s x => Dig (intA s 9) (intA s 10) (intA s t) (intA s u) x.1 x.2
  μ := fun _ x => x.1.toNat
def joinDig (t q u : Nat) : Ann where
  σ := Int
  st := fun s x => ⟨lset (keepA s 135 [2, 8, 9, 10, 11, 13, 14, 15, 17]) q (.v (.int .u64 x)), s.hp⟩
  inv := fun s x => x = digI (intA s 9) (intA s 10) (intA s t) (intA s u)
  μ := fun _ _ => 0
def ADiv : FuncId → List (Nat × LoopBy) := fun _ => [(0, .annJ (annDig 11 15 13) (joinDig 11 15 13)), (2, .annJ (annDig 17 18 14) (joinDig 17 18 14))]
def ΓV : List (FuncId × CSpec) := [(97, .v sWValid)]
def ΓF : List (FuncId × CSpec) := [(96, .v sWFit), (97, .v sWValid)]
def ΓP : List (FuncId × CSpec) := [(82, .v sWWide), (81, .v sWAbs), (80, .v sMul64)]
def ΓQ : List (FuncId × CSpec) := [(98, .v sWSizeOf), (81, .v sWAbs), (99, .v sDiv64), (97, .v sWValid)]
def ΓR : List (FuncId × CSpec) := [(98, .v sWSizeOf), (80, .v sMul64), (97, .v sWValid)]
def ΓT : List (FuncId × CSpec) := [(83, .v sWQuotient)]
def sAwake : FSpec := fun | [] => some (True, .bool true) | _ => none
def ΓA : List (FuncId × CSpec) := [(63, .v sWProduct), (64, .v sWFloor), (65, .v sWCeil)]
def ΓL : List (FuncId × CSpec) := (97, .v sWValid) :: ΓA
end Go.Proofs.YtidhogcijghogaaGreatDoor
