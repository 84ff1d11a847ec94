/- Several texts in one: DpSpecD, DpSpecE, DpVcD, DpVcT, DpCtE, DpCtF, DpCtG. -/
import Derived.Test.YtidhogcijghogaaGreatDoorProg
import Derived.Test.YtidhogcijghogaaGreatDoorAbs
import Derived.Test.YtidhogcijghogaaGreatDoorBase
import Derived.Test.YtidhogcijghogaaGreatDoorDpStrs
import Derived.Test.YtidhogcijghogaaGreatDoorTextA
/- What the functions of dip, and of its reference, answer. -/
namespace Go.Proofs.YtidhogcijghogaaGreatDoor.Dp
open Go Go.Abs Go.RowKit
set_option linter.unusedVariables false
instance (n : Int) : Decidable (I64 n) := by unfold I64; infer_instance
def Fit (n : Int) : Prop := -1099511627776 ≤ n ∧ n ≤ 1099511627776
instance (n : Int) : Decidable (Fit n) := by unfold Fit; infer_instance
def Val (a b : Int) : Prop := a ≤ b ∧ -1099511627776 ≤ a ∧ b ≤ 1099511627776
instance (a b : Int) : Decidable (Val a b) := by unfold Val; infer_instance
abbrev arc (a b : Int) : Value := .agg ⟨[.int .i64 a, .int .i64 b]⟩
abbrev pair (a b : Value) : Value := .tuple ⟨[a, b]⟩
abbrev num (n : Int) : Value := .int .i64 n
def Den (d : Int) : Prop := 1 ≤ d ∧ d ≤ 9223372036854775807
def pick (c : Prop) [Decidable c] (x y : Int) : Int := if c then x else y
def gate (c : Prop) [Decidable c] (x : Int) : Int := if c then x else 0
def sFits : FSpec := fun | [.int .i64 n] => some (True, .bool (decide (Fit n))) | _ => none
def sVal : FSpec := fun | [.agg ⟨[.int .i64 a, .int .i64 b]⟩] => some (True, .bool (decide (Val a b))) | _ => none
def sFloor : FSpec := fun | [.int .i64 n, .int .i64 d] => some (I64 n ∧ Den d, num (n / d)) | _ => none
def sCeil : FSpec := fun | [.int .i64 n, .int .i64 d] => some (I64 n ∧ Den d ∧ I64 (-(-n / d)), num (-(-n / d))) | _ => none
def sQuot : FSpec := fun | [.int .i64 n, .int .i64 d] => some (I64 n ∧ I64 (-n) ∧ Den d ∧ I64 (-(-n / d)), arc (n / d) (-(-n / d))) | _ => none
def sAdd5 : FSpec := fun | [.agg ⟨[.int .i64 a, .int .i64 b]⟩, .agg ⟨[.int .i64 c, .int .i64 d]⟩] => some (I64 (a + c) ∧ I64 (b + d), arc (a + c) (b + d)) | _ => none
/-! Texts of angles. -/
def textL (n : Int) : List UInt8 := if n < 0 then 45 :: coreL n.natAbs else coreL n.natAbs
def textB (n : Int) : ByteArray := ⟨(textL n).toArray⟩
def rnd (n : Int) : Int := (n + 50) / 100 * 100
def sTextI : FSpec := fun | [.int .i64 n] => some (Fit n, .string (textB n)) | _ => none
def printL (a b : Int) : List UInt8 := if rnd a = rnd b then textL (rnd a) else textL (rnd a) ++ [32, 46, 46, 32] ++ textL (rnd b)
def prints (a b : Int) : Prop := Val a b ∧ Fit (rnd a) ∧ Fit (rnd b)
instance (a b : Int) : Decidable (prints a b) := by unfold prints; infer_instance
def printB (a b : Int) : ByteArray := ⟨(if prints a b then printL a b else []).toArray⟩
def sPrint : FSpec := fun | [.agg ⟨[.int .i64 a, .int .i64 b]⟩] => some (True, pair (.string (printB a b)) (num (pick (Val a b) (pick (Fit (rnd a) ∧ Fit (rnd b)) 0 5) 1))) | _ => none
def digB (n k : Int) : ByteArray := ⟨(digL n.toNat k.toNat).toArray⟩
def DgOk (n k : Int) : Prop := 0 ≤ n ∧ n ≤ 1099511627776 ∧ 0 ≤ k ∧ k ≤ 9
def sDigits : FSpec := fun | [.int .i64 n, .int .i64 k] => some (DgOk n k, .string (digB n k)) | _ => none
def sRound : FSpec := fun | [.int .i64 n] => some (-2199023255552 ≤ n ∧ n ≤ 2199023255552, num (rnd n)) | _ => none
def sPrint5 : FSpec := fun | [.agg ⟨[.int .i64 a, .int .i64 b]⟩] => some (Val a b, pair (.string (printB a b)) (num (pick (Fit (rnd a) ∧ Fit (rnd b)) 0 5))) | _ => none
def itoaB (n : Int) : ByteArray := ⟨(Lib.itoa n).toArray⟩
def sItoa : FSpec := fun | [.int .i64 n] => some (I64 n, .string (itoaB n)) | _ => none
def DecOk (k : Nat) (n : Int) : Prop := I64 n ∧ n.natAbs < 10 ^ k ∧ k ≠ 0
def sDec (k : Nat) : FSpec := fun | [.int .i64 n] => some (DecOk k n, .string (itoaB n)) | _ => none
/-! Roots. -/
def rootI : Nat → Int → Int → Int
  | 0, _, r => r
  | n + 1, v, r => if (r + 2 ^ n) * (r + 2 ^ n) ≤ v then rootI n v (r + 2 ^ n) else rootI n v r
def sqI (v : Int) : Int := rootI 31 v 0
def rUp (v : Int) : Int := if sqI v * sqI v < v then sqI v + 1 else sqI v
def Rt (f n : Int) : Prop := 0 ≤ f ∧ f ≤ 208 ∧ 0 ≤ n ∧ n ≤ 1000000
instance (f n : Int) : Decidable (Rt f n) := by unfold Rt; infer_instance
def sRootD : FSpec := fun | [.int .i64 f, .int .i64 n] => some (Rt f n, arc (sqI (f * f * n)) (rUp (f * f * n))) | _ => none
def sIsq : FSpec := fun | [.int .i64 n] => some (0 ≤ n ∧ n ≤ 1152921504606846976, num (sqI n)) | _ => none
def Eye (n : Int) : Prop := 0 ≤ n ∧ n ≤ 10000
instance (n : Int) : Decidable (Eye n) := by unfold Eye; infer_instance
def Hgt (n : Int) : Prop := 0 ≤ n ∧ n ≤ 1000000
instance (n : Int) : Decidable (Hgt n) := by unfold Hgt; infer_instance
def dLo (n : Int) : Int := sqI (176 * 176 * n)
def dHi (n : Int) : Int := rUp (176 * 176 * n)
def hLo (n : Int) : Int := sqI (208 * 208 * n)
def hHi (n : Int) : Int := rUp (208 * 208 * n)
def sEye : FSpec := fun | [.int .i64 n] => some (True, .bool (decide (Eye n))) | _ => none
def sDip : FSpec := fun | [.int .i64 n] => some (True, pair (arc (gate (Eye n) (dLo n)) (gate (Eye n) (dHi n))) (num (pick (Eye n) 0 2))) | _ => none
def okS (e d : Int) : Prop := Eye e ∧ 1 ≤ d ∧ d ≤ 100000
instance (e d : Int) : Decidable (okS e d) := by unfold okS; infer_instance
def nS (e d : Int) : Int := 131953 * d * d + 5893750000 * e
def sLo (e d : Int) : Int := nS e d / (317500 * d)
def sHi (e d : Int) : Int := -(-nS e d / (317500 * d))
def sShort : FSpec := fun | [.int .i64 e, .int .i64 d] => some (True, pair (arc (gate (okS e d) (sLo e d)) (gate (okS e d) (sHi e d))) (num (pick (okS e d) 0 2))) | _ => none
def sHorizon : FSpec := fun | [.int .i64 n] => some (True, pair (arc (gate (Hgt n) (hLo n)) (gate (Hgt n) (hHi n))) (num (pick (Hgt n) 0 2))) | _ => none
def okV (e h : Int) : Prop := Eye e ∧ Hgt h
instance (e d : Int) : Decidable (okV e d) := by unfold okV; infer_instance
def sVisible : FSpec := fun | [.int .i64 e, .int .i64 h] => some (True, pair (arc (gate (okV e h) (hLo e + hLo h)) (gate (okV e h) (hHi e + hHi h))) (num (pick (okV e h) 0 2))) | _ => none
/-! The table. -/
def lineB (n : Int) : ByteArray := itoaB n ++ ⟨[32].toArray⟩ ++ printB (dLo n) (dHi n)
def AllEye (xs : List Int) : Prop := ∀ x ∈ xs, Eye x
instance (xs : List Int) : Decidable (AllEye xs) := by unfold AllEye; infer_instance
def okTab (xs : List Int) : Prop := xs.length ≤ 1000 ∧ AllEye xs
instance (xs : List Int) : Decidable (okTab xs) := by unfold okTab; infer_instance
def tabL (xs : List Int) : List ByteArray := if okTab xs then xs.map lineB else []
def tabE (xs : List Int) : Int := if 1000 < xs.length then 4 else pick (AllEye xs) 0 2
abbrev iR (l : List Int) : CD := .r 3 (.int .i64) l
abbrev bR (l : List ByteArray) : CD := .r 9 .str l
def sTab : RSpec := fun | [.one (.r 3 (.int .i64) xs)] => some ((∀ x ∈ xs, I64 x) ∧ xs.length ≤ 9223372036854775807, [.one (bR (tabL xs)), .one (.v (num (tabE xs)))]) | _ => none
def sEqS : RSpec := fun | [.one (.r 9 .str xs), .one (.r 9 .str ys)] => some (xs.length ≤ 9223372036854775807 ∧ ys.length ≤ 9223372036854775807, [.one (.v (.bool (decide (xs = ys))))]) | _ => none
end Go.Proofs.YtidhogcijghogaaGreatDoor.Dp

/- What is said of the loops of dip, of its reference and of its laws; the lists of what is known. -/
namespace Go.Proofs.YtidhogcijghogaaGreatDoor.Dp
open Go Go.Abs Go.RowKit
set_option linter.unusedVariables false
/-- A row of strings, and one of ints, of the call's own. -/
abbrev rowS (l : List ByteArray) : List Blk := [⟨9, [], some true, some ⟨.str, l, false⟩⟩, deadB]
abbrev rowN (l : List Int) : List Blk := [⟨3, [], some true, some ⟨.int .i64, l, false⟩⟩, deadB]
/-- dip's root: two bounds. -/
def annRootD (V : Int) : Ann where
  σ := Int × Int
  st := fun s x => ⟨lset (lset (keepA s 43 [0, 1, 4, 5]) 6 (.v (.int .i64 x.1))) 7 (.v (.int .i64 x.2)), s.hp⟩
  inv := fun _ x => 0 ≤ x.1 ∧ x.1 < x.2 ∧ x.2 ≤ 2097152 ∧ x.1 * x.1 ≤ V ∧ V < x.2 * x.2
  μ := fun _ x => (x.2 - x.1).toNat
def ARootD (V : Int) : FuncId → List (Nat × LoopBy) := fun _ => [(0, .ann (annRootD V))]
def bitP : Nat → Int
  | 0 => 0
  | k + 1 => 2 ^ k
/-- The reference's root: the root so far, and how many bits are still to come. -/
def annIsq (V : Int) : Ann where
  σ := Int × Nat
  st := fun s x => ⟨lset (lset (keepA s 22 [0]) 3 (.v (.int .i64 x.1))) 4 (.v (.int .i64 (bitP x.2))), s.hp⟩
  inv := fun _ x => x.2 ≤ 31 ∧ 0 ≤ x.1 ∧ x.1 + 2 ^ x.2 ≤ 2 ^ 31 ∧ rootI x.2 V x.1 = rootI 31 V 0
  μ := fun _ x => x.2
def AIsq (V : Int) : FuncId → List (Nat × LoopBy) := fun _ => [(0, .ann (annIsq V))]
/-- slices.Equal: those before are equal. -/
def annEqS (xs ys : List ByteArray) : Ann where
  σ := Nat
  st := fun s i => ⟨lset (keepA s 26 [0, 1, 12]) 13 (.v (.int .i64 i)), s.hp⟩
  inv := fun _ i => i ≤ xs.length ∧ xs.length = ys.length ∧ xs.take i = ys.take i
  μ := fun _ i => xs.length - i
def AEqS (xs ys : List ByteArray) : FuncId → List (Nat × LoopBy) := fun _ => [(0, .ann (annEqS xs ys))]
/-- The reference's digits: what is left, and the digits so far. -/
def annDig (N K : Int) : Ann where
  σ := Nat × List UInt8
  st := fun s x => ⟨lset (lset (lset (keepA s 25 []) 0 (.v (.int .i64 x.1))) 1 (.v (.int .i64 (K - x.2.length)))) 5 (.v (.string ⟨x.2.toArray⟩)), s.hp⟩
  inv := fun _ x => (x.1 : Int) ≤ N ∧ digL x.1 (K - x.2.length).toNat ++ x.2 = digL N.toNat K.toNat
  μ := fun _ x => x.1 + (K - x.2.length).toNat
def ADig (N K : Int) : FuncId → List (Nat × LoopBy) := fun _ => [(0, .ann (annDig N K))]
/-- The lines so far. -/
def linesT (xs : List Int) (i : Nat) : List ByteArray := (xs.take i).map lineB
def annTab (xs : List Int) : Ann where
  σ := Nat
  st := fun s i => ⟨lset (lset (keepA s 45 [0, 13, 14]) 15 (.v (.int .i64 i))) 4 (.os s.hp.length (linesT xs i).length), s.hp ++ rowS (linesT xs i)⟩
  inv := fun _ i => i ≤ xs.length ∧ AllEye (xs.take i)
  μ := fun _ i => xs.length - i
def ATab (xs : List Int) : FuncId → List (Nat × LoopBy) := fun _ => [(0, .ann (annTab xs))]
def annTab5 (xs : List Int) : Ann where
  σ := Nat
  st := fun s i => ⟨lset (lset (keepA s 50 [0]) 5 (.v (.int .i64 i))) 4 (.os s.hp.length (linesT xs i).length), s.hp ++ rowS (linesT xs i)⟩
  inv := fun _ i => i ≤ xs.length ∧ AllEye (xs.take i)
  μ := fun _ i => xs.length - i
def ATab5 (xs : List Int) : FuncId → List (Nat × LoopBy) := fun _ => [(0, .ann (annTab5 xs))]
/-- DipLines: the heights so far; then the lines that were looked at. -/
def eyesT (xs : List Int) (i : Nat) : List Int := (xs.take i).map fun x => x % 10001
def annLn (xs : List Int) : Ann where
  σ := Nat
  st := fun s i => ⟨lset (lset (keepA s 82 [0, 19, 20]) 21 (.v (.int .i64 i))) 3 (.os s.hp.length (eyesT xs i).length), s.hp ++ rowN (eyesT xs i)⟩
  inv := fun _ i => i ≤ xs.length
  μ := fun _ i => xs.length - i
def annLn2 (xs : List Int) : Ann where
  σ := Nat
  st := fun s i => ⟨lset (keepA s 82 [3, 6, 46, 47]) 48 (.v (.int .i64 i)), s.hp⟩
  inv := fun _ i => i ≤ xs.length
  μ := fun _ i => xs.length - i
def ALn (xs : List Int) : FuncId → List (Nat × LoopBy) := fun _ => [(0, .ann (annLn xs)), (2, .ann (annLn2 xs))]
def ΓF : List (FuncId × CSpec) := [(21, .v sFits)]
def ΓPr : List (FuncId × CSpec) := [(23, .v sVal), (24, .v sFloor), (21, .v sFits), (22, .v sTextI)]
def ΓTx : List (FuncId × CSpec) := [(34, .v sDigits)]
def ΓP5 : List (FuncId × CSpec) := [(29, .v sRound), (16, .v sTextI)]
def ΓQt : List (FuncId × CSpec) := []
def ΓDp : List (FuncId × CSpec) := []
def ΓEn : List (FuncId × CSpec) := []
def ΓD5 : List (FuncId × CSpec) := [(49, .v sFloor)]
def ΓTb : List (FuncId × CSpec) := [(12, .v sPrint), (39, .v sItoa)]
def ΓT5 : List (FuncId × CSpec) := [(14, .v sPrint5)]
def ΓDc (k : Nat) : List (FuncId × CSpec) := []
/-- The table, by any names. -/
def sTabC (tL : List Int → List ByteArray) (tE : List Int → Int) : RSpec := fun | [.one (.r 3 (.int .i64) xs)] => some ((∀ x ∈ xs, I64 x) ∧ xs.length ≤ 9223372036854775807, [.one (bR (tL xs)), .one (.v (num (tE xs)))]) | _ => none
abbrev oneV (x : Value) : AD := .one (.v x)
def sYes : FSpec := fun | [] => some (True, .bool true) | _ => none
def ΓAw (tL : List Int → List ByteArray) (tE : List Int → Int) : List (FuncId × CSpec) := [(7, .r sEqS)]
def ΓLw : List (FuncId × CSpec) := [(7, .r sEqS), (12, .v sPrint), (39, .v sItoa)]
end Go.Proofs.YtidhogcijghogaaGreatDoor.Dp

/- What the functions of dip and of its reference ask. -/
namespace Go.Proofs.YtidhogcijghogaaGreatDoor.Dp
open Go Go.Abs Go.RowKit
set_option linter.unusedVariables false
set_option linter.unusedSimpArgs false
theorem vc_fits (n : Int) (K : Value → Prop) : callsX Tryz.prog ([]) (noAnn) 21 [num n] K = (
 bcase (decide (n ≥ -1099511627776)) (K (Value.bool (decide (n ≤ 1099511627776)))) (K (Value.bool false))) := by kernel_rfl
theorem vc_valid (a b : Int) (K : Value → Prop) : callsX Tryz.prog (ΓF) (noAnn) 23 [arc a b] K = (
 bcase (decide (a ≤ b)) (True ∧ bcase (decide (Fit a)) (True ∧ K (Value.bool (decide (Fit b)))) (K (Value.bool false))) (K (Value.bool false))) := by kernel_rfl
theorem vc_floor (n d : Int) (K : Value → Prop) : callsX Tryz.prog ([]) (noAnn) 24 [num n, num d] K = (
 bcase (d == 0) False (bcase (d == 0) False (bcase (decide (n.tmod d < 0)) (K (Value.int IntKind.i64 (IntKind.i64.wrap (IntKind.i64.wrap (n.tdiv d) - 1)))) (K (Value.int IntKind.i64 (IntKind.i64.wrap (n.tdiv d))))))) := by kernel_rfl
theorem vc_r5floor (n d : Int) (K : Value → Prop) : callsX Tryz.prog ([]) (noAnn) 49 [num n, num d] K = (
 bcase (d == 0) False (bcase (d == 0) False (bcase (decide (n.tmod d < 0)) (K (Value.int IntKind.i64 (IntKind.i64.wrap (IntKind.i64.wrap (n.tdiv d) - 1)))) (K (Value.int IntKind.i64 (IntKind.i64.wrap (n.tdiv d))))))) := by kernel_rfl
theorem vc_r5round (n : Int) (K : Value → Prop) : callsX Tryz.prog ([(49, .v sFloor)]) (noAnn) 29 [num n] K = (
 (I64 (IntKind.i64.wrap (n + 50)) ∧ Den 100) ∧ K (Value.int IntKind.i64 (IntKind.i64.wrap (100 * (IntKind.i64.wrap (n + 50) / 100))))) := by kernel_rfl
theorem vc_r5digits (n k : Int) (K : Value → Prop) : callsX Tryz.prog ([]) (ADig n k) 34 [num n, num k] K = (
 ∃ (s : Nat × List UInt8),
 (n = (↑s.fst : Int) ∧ k = k - (↑s.snd.length : Int) ∧ ByteArray.mk #[] = ByteArray.mk s.snd.toArray ∧ True) ∧
 ((↑s.fst : Int) ≤ n ∧ digL s.fst (k - (↑s.snd.length : Int)).toNat ++ s.snd = digL n.toNat k.toNat) ∧
 ∀ (s : Nat × List UInt8),
 (↑s.fst : Int) ≤ n ∧ digL s.fst (k - (↑s.snd.length : Int)).toNat ++ s.snd = digL n.toNat k.toNat →
 bcase (decide ((↑s.fst : Int) > 0))
 (bcase (tooLong (strV [IntKind.u8.wrap (IntKind.i64.wrap (48 + (↑s.fst : Int).tmod 10))]) (ByteArray.mk s.snd.toArray)) False
 (∃ (s_1 : Nat × List UInt8),
 (IntKind.i64.wrap ((↑s.fst : Int).tdiv 10) = (↑s_1.fst : Int) ∧ IntKind.i64.wrap (k - (↑s.snd.length : Int) - 1) = k - (↑s_1.snd.length : Int) ∧ strV [IntKind.u8.wrap (IntKind.i64.wrap (48 + (↑s.fst : Int).tmod 10))] ++ ByteArray.mk s.snd.toArray = ByteArray.mk s_1.snd.toArray ∧ True) ∧
 ((↑s_1.fst : Int) ≤ n ∧ digL s_1.fst (k - (↑s_1.snd.length : Int)).toNat ++ s_1.snd = digL n.toNat k.toNat) ∧ s_1.fst + (k - (↑s_1.snd.length : Int)).toNat < s.fst + (k - (↑s.snd.length : Int)).toNat))
 (bcase (decide (k - (↑s.snd.length : Int) > 0))
 (bcase (tooLong (strV [IntKind.u8.wrap (IntKind.i64.wrap (48 + (↑s.fst : Int).tmod 10))]) (ByteArray.mk s.snd.toArray)) False
 (∃ (s_1 : Nat × List UInt8),
 (IntKind.i64.wrap ((↑s.fst : Int).tdiv 10) = (↑s_1.fst : Int) ∧ IntKind.i64.wrap (k - (↑s.snd.length : Int) - 1) = k - (↑s_1.snd.length : Int) ∧ strV [IntKind.u8.wrap (IntKind.i64.wrap (48 + (↑s.fst : Int).tmod 10))] ++ ByteArray.mk s.snd.toArray = ByteArray.mk s_1.snd.toArray ∧ True) ∧
 ((↑s_1.fst : Int) ≤ n ∧ digL s_1.fst (k - (↑s_1.snd.length : Int)).toNat ++ s_1.snd = digL n.toNat k.toNat) ∧ s_1.fst + (k - (↑s_1.snd.length : Int)).toNat < s.fst + (k - (↑s.snd.length : Int)).toNat))
 (K (Value.string (ByteArray.mk s.snd.toArray))))) := by kernel_rfl
theorem vc_r5text (n : Int) (K : Value → Prop) : callsX Tryz.prog (ΓTx) (noAnn) 16 [num n] K = (
 bcase (decide (n < 0))
 (DgOk (IntKind.i64.wrap ((IntKind.i64.wrap (0 - n)).tdiv 60000)) 1 ∧
 bcase (tooLong (ByteArray.mk #[45]) (digB (IntKind.i64.wrap ((IntKind.i64.wrap (0 - n)).tdiv 60000)) 1)) False
 (bcase (tooLong (ByteArray.mk #[45] ++ digB (IntKind.i64.wrap ((IntKind.i64.wrap (0 - n)).tdiv 60000)) 1) (ByteArray.mk #[45])) False
 (DgOk (IntKind.i64.wrap (((IntKind.i64.wrap (0 - n)).tmod 60000).tdiv 1000)) 2 ∧
 bcase (tooLong (ByteArray.mk #[45] ++ digB (IntKind.i64.wrap ((IntKind.i64.wrap (0 - n)).tdiv 60000)) 1 ++ ByteArray.mk #[45]) (digB (IntKind.i64.wrap (((IntKind.i64.wrap (0 - n)).tmod 60000).tdiv 1000)) 2)) False
 (bcase (tooLong (ByteArray.mk #[45] ++ digB (IntKind.i64.wrap ((IntKind.i64.wrap (0 - n)).tdiv 60000)) 1 ++ ByteArray.mk #[45] ++ digB (IntKind.i64.wrap (((IntKind.i64.wrap (0 - n)).tmod 60000).tdiv 1000)) 2) (ByteArray.mk #[46])) False
 (bcase (((IntKind.i64.wrap (0 - n)).tmod 1000).tmod 100 == 0)
 (DgOk (IntKind.i64.wrap (((IntKind.i64.wrap (0 - n)).tmod 1000).tdiv 100)) 1 ∧
 bcase (tooLong (ByteArray.mk #[45] ++ digB (IntKind.i64.wrap ((IntKind.i64.wrap (0 - n)).tdiv 60000)) 1 ++ ByteArray.mk #[45] ++ digB (IntKind.i64.wrap (((IntKind.i64.wrap (0 - n)).tmod 60000).tdiv 1000)) 2 ++ ByteArray.mk #[46]) (digB (IntKind.i64.wrap (((IntKind.i64.wrap (0 - n)).tmod 1000).tdiv 100)) 1)) False
 (K (Value.string (ByteArray.mk #[45] ++ digB (IntKind.i64.wrap ((IntKind.i64.wrap (0 - n)).tdiv 60000)) 1 ++ ByteArray.mk #[45] ++ digB (IntKind.i64.wrap (((IntKind.i64.wrap (0 - n)).tmod 60000).tdiv 1000)) 2 ++ ByteArray.mk #[46] ++ digB (IntKind.i64.wrap (((IntKind.i64.wrap (0 - n)).tmod 1000).tdiv 100)) 1))))
 (DgOk ((IntKind.i64.wrap (0 - n)).tmod 1000) 3 ∧
 bcase (tooLong (ByteArray.mk #[45] ++ digB (IntKind.i64.wrap ((IntKind.i64.wrap (0 - n)).tdiv 60000)) 1 ++ ByteArray.mk #[45] ++ digB (IntKind.i64.wrap (((IntKind.i64.wrap (0 - n)).tmod 60000).tdiv 1000)) 2 ++ ByteArray.mk #[46]) (digB ((IntKind.i64.wrap (0 - n)).tmod 1000) 3)) False
 (K (Value.string (ByteArray.mk #[45] ++ digB (IntKind.i64.wrap ((IntKind.i64.wrap (0 - n)).tdiv 60000)) 1 ++ ByteArray.mk #[45] ++ digB (IntKind.i64.wrap (((IntKind.i64.wrap (0 - n)).tmod 60000).tdiv 1000)) 2 ++ ByteArray.mk #[46] ++ digB ((IntKind.i64.wrap (0 - n)).tmod 1000) 3)))))))))
 (DgOk (IntKind.i64.wrap (n.tdiv 60000)) 1 ∧
 bcase (tooLong (ByteArray.mk #[]) (digB (IntKind.i64.wrap (n.tdiv 60000)) 1)) False
 (bcase (tooLong (ByteArray.mk #[] ++ digB (IntKind.i64.wrap (n.tdiv 60000)) 1) (ByteArray.mk #[45])) False
 (DgOk (IntKind.i64.wrap ((n.tmod 60000).tdiv 1000)) 2 ∧
 bcase (tooLong (ByteArray.mk #[] ++ digB (IntKind.i64.wrap (n.tdiv 60000)) 1 ++ ByteArray.mk #[45]) (digB (IntKind.i64.wrap ((n.tmod 60000).tdiv 1000)) 2)) False
 (bcase (tooLong (ByteArray.mk #[] ++ digB (IntKind.i64.wrap (n.tdiv 60000)) 1 ++ ByteArray.mk #[45] ++ digB (IntKind.i64.wrap ((n.tmod 60000).tdiv 1000)) 2) (ByteArray.mk #[46])) False
 (bcase ((n.tmod 1000).tmod 100 == 0)
 (DgOk (IntKind.i64.wrap ((n.tmod 1000).tdiv 100)) 1 ∧
 bcase (tooLong (ByteArray.mk #[] ++ digB (IntKind.i64.wrap (n.tdiv 60000)) 1 ++ ByteArray.mk #[45] ++ digB (IntKind.i64.wrap ((n.tmod 60000).tdiv 1000)) 2 ++ ByteArray.mk #[46]) (digB (IntKind.i64.wrap ((n.tmod 1000).tdiv 100)) 1)) False
 (K (Value.string (ByteArray.mk #[] ++ digB (IntKind.i64.wrap (n.tdiv 60000)) 1 ++ ByteArray.mk #[45] ++ digB (IntKind.i64.wrap ((n.tmod 60000).tdiv 1000)) 2 ++ ByteArray.mk #[46] ++ digB (IntKind.i64.wrap ((n.tmod 1000).tdiv 100)) 1))))
 (DgOk (n.tmod 1000) 3 ∧
 bcase (tooLong (ByteArray.mk #[] ++ digB (IntKind.i64.wrap (n.tdiv 60000)) 1 ++ ByteArray.mk #[45] ++ digB (IntKind.i64.wrap ((n.tmod 60000).tdiv 1000)) 2 ++ ByteArray.mk #[46]) (digB (n.tmod 1000) 3)) False
 (K (Value.string (ByteArray.mk #[] ++ digB (IntKind.i64.wrap (n.tdiv 60000)) 1 ++ ByteArray.mk #[45] ++ digB (IntKind.i64.wrap ((n.tmod 60000).tdiv 1000)) 2 ++ ByteArray.mk #[46] ++ digB (n.tmod 1000) 3)))))))))) := by kernel_rfl
theorem vc_r5print (a b : Int) (K : Value → Prop) : callsX Tryz.prog (ΓP5) (noAnn) 14 [arc a b] K = (
 (-2199023255552 ≤ a ∧ a ≤ 2199023255552) ∧
 (-2199023255552 ≤ b ∧ b ≤ 2199023255552) ∧
 bcase (decide (rnd a < -1099511627776)) (K (Value.tuple #[Value.string (ByteArray.mk #[]), Value.int IntKind.i64 5]))
 (bcase (decide (rnd b > 1099511627776)) (K (Value.tuple #[Value.string (ByteArray.mk #[]), Value.int IntKind.i64 5]))
 (bcase (rnd a == rnd b) (Fit (rnd a) ∧ K (Value.tuple #[Value.string (textB (rnd a)), Value.int IntKind.i64 0]))
 (Fit (rnd a) ∧ bcase (tooLong (textB (rnd a)) (ByteArray.mk #[32, 46, 46, 32])) False (Fit (rnd b) ∧ bcase (tooLong (textB (rnd a) ++ ByteArray.mk #[32, 46, 46, 32]) (textB (rnd b))) False (K (Value.tuple #[Value.string (textB (rnd a) ++ ByteArray.mk #[32, 46, 46, 32] ++ textB (rnd b)), Value.int IntKind.i64 0]))))))) := by kernel_rfl
theorem vc_print (a b : Int) (K : Value → Prop) : callsX Tryz.prog (ΓPr) (noAnn) 12 [arc a b] K = (
 True ∧
 bcase (!decide (Val a b)) (K (Value.tuple #[Value.string (ByteArray.mk #[]), Value.int IntKind.i64 1]))
 ((I64 (IntKind.i64.wrap (a + 50)) ∧ Den 100) ∧
 (I64 (IntKind.i64.wrap (b + 50)) ∧ Den 100) ∧
 True ∧
 bcase (!decide (Fit (IntKind.i64.wrap (IntKind.i64.wrap (a + 50) / 100 * 100)))) (K (Value.tuple #[Value.string (ByteArray.mk #[]), Value.int IntKind.i64 5]))
 (True ∧
 bcase (!decide (Fit (IntKind.i64.wrap (IntKind.i64.wrap (b + 50) / 100 * 100)))) (K (Value.tuple #[Value.string (ByteArray.mk #[]), Value.int IntKind.i64 5]))
 (bcase (IntKind.i64.wrap (IntKind.i64.wrap (a + 50) / 100 * 100) == IntKind.i64.wrap (IntKind.i64.wrap (b + 50) / 100 * 100)) (Fit (IntKind.i64.wrap (IntKind.i64.wrap (a + 50) / 100 * 100)) ∧ K (Value.tuple #[Value.string (textB (IntKind.i64.wrap (IntKind.i64.wrap (a + 50) / 100 * 100))), Value.int IntKind.i64 0]))
 (Fit (IntKind.i64.wrap (IntKind.i64.wrap (a + 50) / 100 * 100)) ∧
 bcase (tooLong (textB (IntKind.i64.wrap (IntKind.i64.wrap (a + 50) / 100 * 100))) (ByteArray.mk #[32, 46, 46, 32])) False
 (Fit (IntKind.i64.wrap (IntKind.i64.wrap (b + 50) / 100 * 100)) ∧
 bcase (tooLong (textB (IntKind.i64.wrap (IntKind.i64.wrap (a + 50) / 100 * 100)) ++ ByteArray.mk #[32, 46, 46, 32]) (textB (IntKind.i64.wrap (IntKind.i64.wrap (b + 50) / 100 * 100)))) False
 (K (Value.tuple #[Value.string (textB (IntKind.i64.wrap (IntKind.i64.wrap (a + 50) / 100 * 100)) ++ ByteArray.mk #[32, 46, 46, 32] ++ textB (IntKind.i64.wrap (IntKind.i64.wrap (b + 50) / 100 * 100))), Value.int IntKind.i64 0])))))))) := by kernel_rfl
end Go.Proofs.YtidhogcijghogaaGreatDoor.Dp

/- What the tables of dip, of its reference and of its laws ask. -/
namespace Go.Proofs.YtidhogcijghogaaGreatDoor.Dp
open Go Go.Abs Go.RowKit
set_option linter.unusedVariables false
set_option linter.unusedSimpArgs false
theorem vc_eqS (xs ys : List ByteArray) : rcallsX Tryz.prog ([]) (AEqS xs ys) 7 [.one (bR xs), .one (bR ys)] [.one (.v (.bool (decide (xs = ys))))] = (
 bcase ((↑xs.length : Int) != (↑ys.length : Int)) (Value.bool false = Value.bool (decide (xs = ys)) ∧ True)
 (∃ (s : Nat),
 (xs.length = xs.length ∧ ys.length = ys.length ∧ (↑xs.length : Int) = (↑xs.length : Int) ∧ 0 = (↑s : Int) ∧ xs = xs ∧ ys = ys ∧ True) ∧
 (s ≤ xs.length ∧ xs.length = ys.length ∧ List.take s xs = List.take s ys) ∧
 ∀ (s : Nat),
 s ≤ xs.length ∧ xs.length = ys.length ∧ List.take s xs = List.take s ys →
 bcase (decide ((↑s : Int) < (↑xs.length : Int)))
 (bcase (inB (↑s : Int) xs.length)
 (bcase ((↑s : Int).toNat.blt xs.length)
 (bcase (inB (↑s : Int) ys.length)
 (bcase ((↑s : Int).toNat.blt ys.length)
 (bcase (!ByteArray.toList (xs.getD (↑s : Int).toNat (ByteArray.mk #[])) == ByteArray.toList (ys.getD (↑s : Int).toNat (ByteArray.mk #[]))) (Value.bool false = Value.bool (decide (xs = ys)) ∧ True)
 (∃ (s_1 : Nat), (xs.length = xs.length ∧ ys.length = ys.length ∧ (↑xs.length : Int) = (↑xs.length : Int) ∧ IntKind.i64.wrap ((↑s : Int) + 1) = (↑s_1 : Int) ∧ xs = xs ∧ ys = ys ∧ True) ∧ (s_1 ≤ xs.length ∧ xs.length = ys.length ∧ List.take s_1 xs = List.take s_1 ys) ∧ xs.length - s_1 < xs.length - s))
 False)
 False)
 False)
 False)
 (Value.bool true = Value.bool (decide (xs = ys)) ∧ True))) := by kernel_rfl
end Go.Proofs.YtidhogcijghogaaGreatDoor.Dp

/- Contracts of the functions of dip and of its reference over numbers and arcs. -/
namespace Go.Proofs.YtidhogcijghogaaGreatDoor.Dp
open Go Go.Abs Go.RowKit
set_option linter.unusedVariables false
set_option linter.unusedSimpArgs false
theorem eq_pair {a b c d : Value} (h : a = c) (k : b = d) : Value.tuple #[a, b] = pair c d := by rw [h, k]
theorem eq_arc {a b c d : Int} (h : a = c) (k : b = d) : Value.agg #[.int .i64 a, .int .i64 b] = arc c d := by rw [h, k]
theorem eq_num {k : IntKind} {a b : Int} (h : a = b) : Value.int k a = .int k b := by rw [h]
theorem eq_bool {a b : Bool} (h : a = b) : Value.bool a = .bool b := by rw [h]
theorem eq_dec {p q : Prop} [Decidable p] [Decidable q] (h : p ↔ q) : Value.bool (decide p) = .bool (decide q) := by simp [h]
theorem eq_yes {p : Prop} [Decidable p] (h : p) : Value.bool true = .bool (decide p) := by simp [h]
theorem eq_no {p : Prop} [Decidable p] (h : ¬ p) : Value.bool false = .bool (decide p) := by simp [h]
theorem gate_yes {c : Prop} [Decidable c] {x : Int} (h : c) : gate c x = x := if_pos h
theorem gate_no {c : Prop} [Decidable c] {x : Int} (h : ¬ c) : gate c x = 0 := if_neg h
theorem pick_yes {c : Prop} [Decidable c] {x y : Int} (h : c) : pick c x y = x := if_pos h
theorem pick_no {c : Prop} [Decidable c] {x y : Int} (h : ¬ c) : pick c x y = y := if_neg h
theorem tmod_case (n t : Int) (h : 0 < t) : (n.tmod t < 0 ∧ n.tmod t = n % t - t) ∨ (0 ≤ n.tmod t ∧ n.tmod t = n % t) := by
  have h1 := Int.emod_nonneg n (b := t) (by omega)
  have h2 := Int.emod_lt_of_pos n h
  rw [Int.tmod_eq_emod]
  split <;> omega
theorem tdiv_case (n t : Int) (h : 0 < t) : (n.tmod t < 0 ∧ n.tdiv t = n / t + 1) ∨ (0 ≤ n.tmod t ∧ n.tdiv t = n / t) := by
  have e1 := Int.mul_tdiv_add_tmod n t
  have e2 := Int.mul_ediv_add_emod n t
  rcases tmod_case n t h with ⟨c, e⟩ | ⟨c, e⟩
  · refine .inl ⟨c, ?_⟩
    have : t * n.tdiv t = t * (n / t + 1) := by rw [Int.mul_add]; omega
    exact Int.eq_of_mul_eq_mul_left (by omega) this
  · refine .inr ⟨c, ?_⟩
    have : t * n.tdiv t = t * (n / t) := by omega
    exact Int.eq_of_mul_eq_mul_left (by omega) this
theorem quo_bd {n d : Int} (hn : I64 n) (hd : 1 ≤ d) : I64 (n / d) := ediv_bd hd hn.1 hn.2 (by omega) (by omega)
theorem not_long {a b : ByteArray} (h : a.size + b.size ≤ 9223372036854775807) : tooLong a b = false := by
  unfold tooLong
  have : IntKind.i64.max = 9223372036854775807 := rfl
  rw [this]
  exact decide_eq_false (by omega)
/-! Roots. -/
theorem rootI_spec : ∀ (n : Nat) (v r : Int), 0 ≤ r → r * r ≤ v → v < (r + 2 ^ n) * (r + 2 ^ n) →
    rootI n v r * rootI n v r ≤ v ∧ v < (rootI n v r + 1) * (rootI n v r + 1) ∧ r ≤ rootI n v r
  | 0, v, r, h0, h1, h2 => ⟨h1, by simpa [rootI] using h2, Int.le_refl _⟩
  | n + 1, v, r, h0, h1, h2 => by
    have hp : (0 : Int) ≤ 2 ^ n := Int.pow_nonneg (by decide)
    have e : r + (2 : Int) ^ (n + 1) = r + 2 ^ n + 2 ^ n := by rw [Int.pow_succ]; omega
    unfold rootI
    by_cases h : (r + 2 ^ n) * (r + 2 ^ n) ≤ v
    · rw [if_pos h]
      rw [e] at h2
      obtain ⟨a, b, c⟩ := rootI_spec n v (r + 2 ^ n) (by omega) h h2
      exact ⟨a, b, by omega⟩
    · rw [if_neg h]
      exact rootI_spec n v r h0 h1 (by omega)
theorem pow31 : (2 : Int) ^ 31 = 2147483648 := by decide
theorem sq_spec {v : Int} (h0 : 0 ≤ v) (h1 : v ≤ 1152921504606846976) : 0 ≤ sqI v ∧ sqI v * sqI v ≤ v ∧ v < (sqI v + 1) * (sqI v + 1) := by
  obtain ⟨a, b, c⟩ := rootI_spec 31 v 0 (by omega) (by omega) (by rw [pow31]; omega)
  exact ⟨c, a, b⟩
theorem sq_lt {x y : Int} (hx : 0 ≤ x) (hy : 0 ≤ y) (h : x * x < y * y) : x < y := by
  rcases Int.lt_or_le x y with q | q
  · exact q
  · have := Int.mul_le_mul q q hy hx
    omega
theorem sq_uniq {v r : Int} (h0 : 0 ≤ v) (h1 : v ≤ 1152921504606846976) (hr : 0 ≤ r) (h2 : r * r ≤ v) (h3 : v < (r + 1) * (r + 1)) : sqI v = r := by
  obtain ⟨a, b, c⟩ := sq_spec h0 h1
  have q1 := sq_lt a (show 0 ≤ r + 1 by omega) (by omega)
  have q2 := sq_lt hr (show 0 ≤ sqI v + 1 by omega) (by omega)
  omega
variable {Φ : World → Prop} (hst : ∀ w w', Φ w → Below w.heap.size w w' → Φ w')
include hst
theorem c_fits (n : Int) : Ans Tryz.prog Φ 21 [num n] (.bool (decide (Fit n))) := by
  refine fn_by hst Sound.nil (vc_fits n _) ?_
  simp only [bcase_iff, true_and, and_true, decide_eq_true_eq, decide_eq_false_iff_not, Bool.not_eq_true', Bool.not_eq_false', Bool.not_true, Bool.not_false, beq_iff_eq, beq_eq_false_iff_ne, bne_iff_ne, ne_eq, bne_eq_false_iff_eq, Decidable.not_not, ge_iff_le, gt_iff_lt, Bool.not_eq_true, Bool.and_eq_true, Bool.or_eq_true, forall_const, imp_false, implies_true, Bool.true_eq_false, Bool.false_eq_true, false_implies, true_implies, Int.not_lt, Int.not_le, Int.zero_sub]
  repeat' (first | intro _ | apply And.intro)
  all_goals (try (repeat' (first | exact rfl | apply eq_pair | apply eq_arc | apply eq_num | apply eq_dec | apply eq_no | apply eq_yes)))
  all_goals unfold Fit; omega
theorem s_fits : Sound Tryz.prog Φ ΓF :=
  Sound.cons (by kernel_rfl) (fun args p v h _ => by unfold sFits at h; split at h <;> cases h; exact c_fits hst _) Sound.nil
theorem c_valid (a b : Int) : Ans Tryz.prog Φ 23 [arc a b] (.bool (decide (Val a b))) := by
  refine fn_by hst (s_fits hst) (vc_valid a b _) ?_
  simp only [bcase_iff, true_and, and_true, decide_eq_true_eq, decide_eq_false_iff_not, Bool.not_eq_true', Bool.not_eq_false', Bool.not_true, Bool.not_false, beq_iff_eq, beq_eq_false_iff_ne, bne_iff_ne, ne_eq, bne_eq_false_iff_eq, Decidable.not_not, ge_iff_le, gt_iff_lt, Bool.not_eq_true, Bool.and_eq_true, Bool.or_eq_true, forall_const, imp_false, implies_true, Bool.true_eq_false, Bool.false_eq_true, false_implies, true_implies, Int.not_lt, Int.not_le, Int.zero_sub]
  repeat' (first | intro _ | apply And.intro)
  all_goals (try (repeat' (first | exact rfl | apply eq_pair | apply eq_arc | apply eq_num | apply eq_dec | apply eq_no | apply eq_yes)))
  all_goals (unfold Val; (try unfold Fit at *); omega)
theorem c_floor (n d : Int) (hn : I64 n) (hd : Den d) : Ans Tryz.prog Φ 24 [num n, num d] (num (n / d)) := by
  obtain ⟨hd, hd2⟩ := hd
  refine fn_by hst Sound.nil (vc_floor n d _) ?_
  simp only [bcase_iff, true_and, and_true, decide_eq_true_eq, decide_eq_false_iff_not, Bool.not_eq_true', Bool.not_eq_false', Bool.not_true, Bool.not_false, beq_iff_eq, beq_eq_false_iff_ne, bne_iff_ne, ne_eq, bne_eq_false_iff_eq, Decidable.not_not, ge_iff_le, gt_iff_lt, Bool.not_eq_true, Bool.and_eq_true, Bool.or_eq_true, forall_const, imp_false, implies_true, Bool.true_eq_false, Bool.false_eq_true, false_implies, true_implies, Int.not_lt, Int.not_le, Int.zero_sub]
  have hq := quo_bd hn hd
  have hn0 := hn
  unfold I64 at hq hn
  have h0 : n / d + 1 ≤ 9223372036854775807 ∨ 0 ≤ n.tmod d := by
    by_cases q : n < 0
    · have h4 := Int.ediv_neg_of_neg_of_pos q (by omega : 0 < d); omega
    · exact .inr (Int.tmod_nonneg d (by omega))
  refine ⟨by omega, fun _ => ⟨by omega, fun _ => ?_⟩⟩
  rcases tdiv_case n d (by omega) with ⟨c, e⟩ | ⟨c, e⟩ <;> refine ⟨fun _ => eq_num ?_, fun _ => eq_num ?_⟩ <;> (try omega)
  · rw [e, wrap_in (n := n / d + 1) (by omega), wrap_in (by omega)]; omega
  · rw [e, wrap_in (by omega)]
theorem c_r5floor (n d : Int) (hn : I64 n) (hd : Den d) : Ans Tryz.prog Φ 49 [num n, num d] (num (n / d)) := by
  obtain ⟨hd, hd2⟩ := hd
  refine fn_by hst Sound.nil (vc_r5floor n d _) ?_
  simp only [bcase_iff, true_and, and_true, decide_eq_true_eq, decide_eq_false_iff_not, Bool.not_eq_true', Bool.not_eq_false', Bool.not_true, Bool.not_false, beq_iff_eq, beq_eq_false_iff_ne, bne_iff_ne, ne_eq, bne_eq_false_iff_eq, Decidable.not_not, ge_iff_le, gt_iff_lt, Bool.not_eq_true, Bool.and_eq_true, Bool.or_eq_true, forall_const, imp_false, implies_true, Bool.true_eq_false, Bool.false_eq_true, false_implies, true_implies, Int.not_lt, Int.not_le, Int.zero_sub]
  have hq := quo_bd hn hd
  have hn0 := hn
  unfold I64 at hq hn
  have h0 : n / d + 1 ≤ 9223372036854775807 ∨ 0 ≤ n.tmod d := by
    by_cases q : n < 0
    · have h4 := Int.ediv_neg_of_neg_of_pos q (by omega : 0 < d); omega
    · exact .inr (Int.tmod_nonneg d (by omega))
  refine ⟨by omega, fun _ => ⟨by omega, fun _ => ?_⟩⟩
  rcases tdiv_case n d (by omega) with ⟨c, e⟩ | ⟨c, e⟩ <;> refine ⟨fun _ => eq_num ?_, fun _ => eq_num ?_⟩ <;> (try omega)
  · rw [e, wrap_in (n := n / d + 1) (by omega), wrap_in (by omega)]; omega
  · rw [e, wrap_in (by omega)]
theorem c_r5round (n : Int) (h : -2199023255552 ≤ n ∧ n ≤ 2199023255552) : Ans Tryz.prog Φ 29 [num n] (num (rnd n)) := by
  refine fn_by hst (Sound.cons (by kernel_rfl) (fun args p v h hp => by unfold sFloor at h; split at h <;> cases h; exact c_r5floor hst _ _ hp.1 hp.2) Sound.nil) (vc_r5round n _) ?_
  rw [wrap_in (n := n + 50) (by omega)]
  refine ⟨⟨by unfold I64; omega, by unfold Den; omega⟩, eq_num ?_⟩
  unfold rnd
  rw [wrap_in (by omega)]
  omega
omit hst in
theorem s_Dp : Sound Tryz.prog Φ ΓDp := Sound.nil
theorem s_D5 : Sound Tryz.prog Φ ΓD5 :=
  Sound.cons (by kernel_rfl) (fun args p v h hp => by unfold sFloor at h; split at h <;> cases h; exact c_r5floor hst _ _ hp.1 hp.2)
  (Sound.nil)
omit hst in
theorem short_bd {e d : Int} (h : okS e d) : 0 ≤ nS e d ∧ nS e d ≤ 1378467500000000 ∧ 0 ≤ 131953 * d ∧ 131953 * d ≤ 13195300000 ∧ 0 ≤ 131953 * d * d ∧ 131953 * d * d ≤ 1319530000000000 ∧ 0 ≤ 5893750000 * e ∧ 5893750000 * e ≤ 58937500000000 ∧ 317500 ≤ 317500 * d ∧ 317500 * d ≤ 31750000000 := by
  obtain ⟨⟨e0, e1⟩, d0, d1⟩ := h
  have dd : 0 ≤ 131953 * d * d ∧ 131953 * d * d ≤ 1319530000000000 := ⟨Int.mul_nonneg (by omega) (by omega), by have := Int.mul_le_mul (show 131953 * d ≤ 13195300000 by omega) d1 (by omega) (by decide); omega⟩
  unfold nS
  omega
omit hst in
theorem short_ok {e d : Int} (h : okS e d) : I64 (nS e d) ∧ I64 (-nS e d) ∧ Den (317500 * d) ∧ I64 (-(-nS e d / (317500 * d))) := by
  obtain ⟨a, b, _, _, _, _, _, _, c, c'⟩ := short_bd h
  have q := ediv_bd (a := -nS e d) (b := 317500 * d) (lo := -1378467500000000) (hi := 0) (by omega) (by omega) (by omega) (by omega) (by omega)
  exact ⟨by unfold I64; omega, by unfold I64; omega, ⟨by omega, by omega⟩, by unfold I64; omega⟩
omit hst in
theorem root_bd {n : Int} (h : Hgt n) : 0 ≤ sqI (208 * 208 * n) ∧ sqI (208 * 208 * n) ≤ 2097152 ∧ sqI (208 * 208 * n) ≤ rUp (208 * 208 * n) ∧ rUp (208 * 208 * n) ≤ sqI (208 * 208 * n) + 1 := by
  unfold Hgt at h
  obtain ⟨s0, s1, s2⟩ := sq_spec (v := 208 * 208 * n) (by omega) (by omega)
  have lt : sqI (208 * 208 * n) < 2097152 := sq_lt s0 (by decide) (by omega)
  unfold rUp
  split <;> omega
end Go.Proofs.YtidhogcijghogaaGreatDoor.Dp

/- Contracts of the functions of dip and of its reference over texts. -/
namespace Go.Proofs.YtidhogcijghogaaGreatDoor.Dp
open Go Go.Abs Go.RowKit
set_option linter.unusedVariables false
set_option linter.unusedSimpArgs false
theorem push_one (b : UInt8) (l : List UInt8) : ByteArray.empty.push b ++ ByteArray.mk l.toArray = ByteArray.mk (b :: l).toArray := bytes_app [b] l
theorem size_mk (l : List UInt8) : (ByteArray.mk l.toArray).size = l.length := by simp [ByteArray.size]
theorem digB_nat (a k : Nat) : digB (a : Int) (k : Int) = ⟨(digL a k).toArray⟩ := by unfold digB; rw [Int.toNat_natCast, Int.toNat_natCast]
theorem enc_digit : ∀ d : Fin 10, Utf8.encode (48 + (d.val : Int)) = ⟨#[UInt8.ofNat (48 + d.val)]⟩ := by decide
theorem enc_nat {d : Nat} (h : d < 10) : Utf8.encode (48 + (d : Int)) = ⟨[UInt8.ofNat (48 + d)].toArray⟩ := enc_digit ⟨d, h⟩
theorem wrap32 {x : Int} (h : 0 ≤ x ∧ x ≤ 1000) : IntKind.i32.wrap x = x := by
  exact IntWalk.i32_in x (by omega)
theorem wrap8 {x : Int} (h : 0 ≤ x ∧ x ≤ 255) : IntKind.u8.wrap x = x := by
  have h1 : IntKind.u8.wrap x = x % 256 := rfl
  rw [h1]; omega
theorem dig_byte (m : Nat) : UInt8.ofNat (IntKind.u8.wrap (IntKind.i64.wrap (48 + (m : Int).tmod 10))).toNat = UInt8.ofNat (48 + m % 10) := by
  have e : (m : Int).tmod 10 = ((m % 10 : Nat) : Int) := rfl
  rw [e, wrap_in (by omega), wrap8 (by omega)]
  congr 1
theorem nat_tdiv (m d : Nat) : (m : Int).tdiv (d : Int) = ((m / d : Nat) : Int) := rfl
theorem nat_tmod (m d : Nat) : (m : Int).tmod (d : Int) = ((m % d : Nat) : Int) := rfl
theorem core_len (m : Nat) : (coreL m).length ≤ m + 40 := by
  unfold coreL
  have h1 := dec_le (m / 60000)
  have h2 := pad_len 2 (m % 60000 / 1000) (by omega) (by omega)
  have h3 := pad_len 3 (m % 1000) (by omega) (by omega)
  have h4 := dec_le (m % 1000 / 100)
  split <;> simp <;> omega
theorem textB_size {n : Int} (h : Fit n) : (textB n).size ≤ 1099511627900 := by
  unfold textB textL
  unfold Fit at h
  have := core_len n.natAbs
  split <;> simp [ByteArray.size] <;> omega
theorem sp_size : (ByteArray.mk #[32, 46, 46, 32]).size = 4 := rfl
theorem st_tabs : ∀ w w', Tabs w → Below w.heap.size w w' → Tabs w' := fun _ _ h hb => h.below hb (Nat.le_refl _)
/-- What is asked behind the sign of a text. -/
def txtTree (p : List UInt8) (x : Int) (K : Value → Prop) : Prop :=
 (DgOk (IntKind.i64.wrap (x.tdiv 60000)) 1 ∧
 bcase (tooLong (ByteArray.mk p.toArray) (digB (IntKind.i64.wrap (x.tdiv 60000)) 1)) False
 (bcase (tooLong (ByteArray.mk p.toArray ++ digB (IntKind.i64.wrap (x.tdiv 60000)) 1) (ByteArray.mk #[45])) False
 (DgOk (IntKind.i64.wrap ((x.tmod 60000).tdiv 1000)) 2 ∧
 bcase (tooLong (ByteArray.mk p.toArray ++ digB (IntKind.i64.wrap (x.tdiv 60000)) 1 ++ ByteArray.mk #[45]) (digB (IntKind.i64.wrap ((x.tmod 60000).tdiv 1000)) 2)) False
 (bcase (tooLong (ByteArray.mk p.toArray ++ digB (IntKind.i64.wrap (x.tdiv 60000)) 1 ++ ByteArray.mk #[45] ++ digB (IntKind.i64.wrap ((x.tmod 60000).tdiv 1000)) 2) (ByteArray.mk #[46])) False
 (bcase ((x.tmod 1000).tmod 100 == 0)
 (DgOk (IntKind.i64.wrap ((x.tmod 1000).tdiv 100)) 1 ∧
 bcase (tooLong (ByteArray.mk p.toArray ++ digB (IntKind.i64.wrap (x.tdiv 60000)) 1 ++ ByteArray.mk #[45] ++ digB (IntKind.i64.wrap ((x.tmod 60000).tdiv 1000)) 2 ++ ByteArray.mk #[46]) (digB (IntKind.i64.wrap ((x.tmod 1000).tdiv 100)) 1)) False
 (K (Value.string (ByteArray.mk p.toArray ++ digB (IntKind.i64.wrap (x.tdiv 60000)) 1 ++ ByteArray.mk #[45] ++ digB (IntKind.i64.wrap ((x.tmod 60000).tdiv 1000)) 2 ++ ByteArray.mk #[46] ++ digB (IntKind.i64.wrap ((x.tmod 1000).tdiv 100)) 1))))
 (DgOk (x.tmod 1000) 3 ∧
 bcase (tooLong (ByteArray.mk p.toArray ++ digB (IntKind.i64.wrap (x.tdiv 60000)) 1 ++ ByteArray.mk #[45] ++ digB (IntKind.i64.wrap ((x.tmod 60000).tdiv 1000)) 2 ++ ByteArray.mk #[46]) (digB (x.tmod 1000) 3)) False
 (K (Value.string (ByteArray.mk p.toArray ++ digB (IntKind.i64.wrap (x.tdiv 60000)) 1 ++ ByteArray.mk #[45] ++ digB (IntKind.i64.wrap ((x.tmod 60000).tdiv 1000)) 2 ++ ByteArray.mk #[46] ++ digB (x.tmod 1000) 3)))))))))
theorem txt_ok (p : List UInt8) (hp : p.length ≤ 1) (m : Nat) (h : m ≤ 1099511627776) {K : Value → Prop} (hk : K (.string ⟨(p ++ coreL m).toArray⟩)) : txtTree p (m : Int) K := by
  unfold txtTree
  have e1 : IntKind.i64.wrap ((m : Int).tdiv 60000) = ((m / 60000 : Nat) : Int) := by rw [show (m : Int).tdiv 60000 = ((m / 60000 : Nat) : Int) from rfl, wrap_in (by omega)]
  have e2 : IntKind.i64.wrap (((m : Int).tmod 60000).tdiv 1000) = ((m % 60000 / 1000 : Nat) : Int) := by rw [show ((m : Int).tmod 60000).tdiv 1000 = ((m % 60000 / 1000 : Nat) : Int) from rfl, wrap_in (by omega)]
  have e3 : IntKind.i64.wrap (((m : Int).tmod 1000).tdiv 100) = ((m % 1000 / 100 : Nat) : Int) := by rw [show ((m : Int).tmod 1000).tdiv 100 = ((m % 1000 / 100 : Nat) : Int) from rfl, wrap_in (by omega)]
  have e4 : (m : Int).tmod 1000 = ((m % 1000 : Nat) : Int) := rfl
  have e5 : ((m : Int).tmod 1000).tmod 100 = ((m % 1000 % 100 : Nat) : Int) := rfl
  rw [e1, e2, e3, e5, e4]
  have d1 : digB ((m / 60000 : Nat) : Int) 1 = ⟨(Lib.decDigits (m / 60000)).toArray⟩ := by rw [← digL_one]; exact digB_nat _ 1
  have d2 : digB ((m % 60000 / 1000 : Nat) : Int) 2 = ⟨(padL 2 (m % 60000 / 1000)).toArray⟩ := by rw [← digL_pad 2 _ (by omega)]; exact digB_nat _ 2
  have d3 : digB ((m % 1000 / 100 : Nat) : Int) 1 = ⟨(Lib.decDigits (m % 1000 / 100)).toArray⟩ := by rw [← digL_one]; exact digB_nat _ 1
  have d4 : digB ((m % 1000 : Nat) : Int) 3 = ⟨(padL 3 (m % 1000)).toArray⟩ := by rw [← digL_pad 3 _ (by omega)]; exact digB_nat _ 3
  have h1 := dec_le (m / 60000)
  have h2 := pad_len 2 (m % 60000 / 1000) (by omega) (by omega)
  have h3 := pad_len 3 (m % 1000) (by omega) (by omega)
  have h4 := dec_le (m % 1000 / 100)
  have hc : coreL m = Lib.decDigits (m / 60000) ++ [45] ++ padL 2 (m % 60000 / 1000) ++ [46] ++ (if m % 1000 % 100 = 0 then Lib.decDigits (m % 1000 / 100) else padL 3 (m % 1000)) := rfl
  rw [hc] at hk
  rw [d1, d2, d3, d4, show (ByteArray.mk #[45]) = ⟨[45].toArray⟩ from rfl, show (ByteArray.mk #[46]) = ⟨[46].toArray⟩ from rfl]
  have q1 : DgOk ((m / 60000 : Nat) : Int) 1 := by unfold DgOk; omega
  have q2 : DgOk ((m % 60000 / 1000 : Nat) : Int) 2 := by unfold DgOk; omega
  have q3 : DgOk ((m % 1000 / 100 : Nat) : Int) 1 := by unfold DgOk; omega
  have q4 : DgOk ((m % 1000 : Nat) : Int) 3 := by unfold DgOk; omega
  generalize Lib.decDigits (m / 60000) = A at *
  generalize padL 2 (m % 60000 / 1000) = B at *
  generalize Lib.decDigits (m % 1000 / 100) = C at *
  generalize padL 3 (m % 1000) = D at *
  rw [bytes_app, bytes_app, bytes_app, bytes_app]
  rw [not_long (by rw [size_mk, size_mk]; omega), not_long (by rw [size_mk, size_mk]; simp; omega), not_long (by rw [size_mk, size_mk]; simp; omega), not_long (by rw [size_mk, size_mk]; simp; omega)]
  rw [bcase_false, bcase_false, bcase_false, bcase_false]
  refine ⟨q1, q2, bcase_iff.mpr ⟨fun q => ⟨q3, ?_⟩, fun q => ⟨q4, ?_⟩⟩⟩
  · have q : m % 1000 % 100 = 0 := by have := eq_of_beq q; omega
    rw [if_pos q] at hk
    rw [not_long (by rw [size_mk, size_mk]; simp; omega), bcase_false, bytes_app]
    simpa [List.append_assoc] using hk
  · have q : ¬ m % 1000 % 100 = 0 := fun e => by rw [e] at q; simp at q
    rw [if_neg q] at hk
    rw [not_long (by rw [size_mk, size_mk]; simp; omega), bcase_false, bytes_app]
    simpa [List.append_assoc] using hk
section
variable {Φ : World → Prop} (hst : ∀ w w', Φ w → Below w.heap.size w w' → Φ w')
include hst
theorem c_r5digits (n k : Int) (h : DgOk n k) : Ans Tryz.prog Φ 34 [num n, num k] (.string (digB n k)) := by
  obtain ⟨n0, n1, k0, k1⟩ := h
  refine fn_by hst Sound.nil (vc_r5digits n k _) ?_
  refine ⟨(n.toNat, []), ⟨by show n = ((n.toNat : Nat) : Int); omega, by simp, rfl, trivial⟩, ⟨by show ((n.toNat : Nat) : Int) ≤ n; omega, by simp⟩, fun s hs => ?_⟩
  obtain ⟨m, l⟩ := s
  obtain ⟨h1, h2⟩ := hs
  dsimp only at h1 h2 ⊢
  have hl : l.length ≤ 13 := by
    have := congrArg List.length h2
    rw [List.length_append] at this
    have b := digL_len 13 n.toNat k.toNat (by omega)
    omega
  rw [show ∀ x : Int, strV [x] = ByteArray.empty.push (UInt8.ofNat x.toNat) from fun _ => rfl, dig_byte, not_long (by have := size_mk l; show 1 + (ByteArray.mk l.toArray).size ≤ _; omega), bcase_false, push_one]
  have w1 : IntKind.i64.wrap ((m : Int).tdiv 10) = ((m / 10 : Nat) : Int) := by rw [show (m : Int).tdiv 10 = ((m / 10 : Nat) : Int) from rfl, wrap_in (by omega)]
  have w2 : IntKind.i64.wrap (k - (l.length : Int) - 1) = k - ((l.length + 1 : Nat) : Int) := by rw [wrap_in (by omega)]; omega
  have step : ¬ (m = 0 ∧ (k - (l.length : Int)).toNat = 0) → ∃ s_1 : Nat × List UInt8,
      (IntKind.i64.wrap ((m : Int).tdiv 10) = (s_1.1 : Int) ∧ IntKind.i64.wrap (k - (l.length : Int) - 1) = k - (s_1.2.length : Int) ∧ ByteArray.mk (UInt8.ofNat (48 + m % 10) :: l).toArray = ByteArray.mk s_1.2.toArray ∧ True) ∧
      ((s_1.1 : Int) ≤ n ∧ digL s_1.1 (k - (s_1.2.length : Int)).toNat ++ s_1.2 = digL n.toNat k.toNat) ∧ s_1.1 + (k - (s_1.2.length : Int)).toNat < m + (k - (l.length : Int)).toNat := fun hz => by
    refine ⟨(m / 10, UInt8.ofNat (48 + m % 10) :: l), ⟨w1, w2, rfl, trivial⟩, ⟨by show ((m / 10 : Nat) : Int) ≤ n; omega, ?_⟩, ?_⟩
    · show digL (m / 10) (k - ((l.length + 1 : Nat) : Int)).toNat ++ _ = _
      rw [← h2, digL_step hz, show (k - ((l.length + 1 : Nat) : Int)).toNat = (k - (l.length : Int)).toNat - 1 by omega]
      simp
    · show m / 10 + (k - ((l.length + 1 : Nat) : Int)).toNat < _
      omega
  refine bcase_iff.mpr ⟨fun q => step (by have := of_decide_eq_true q; omega), fun q => bcase_iff.mpr ⟨fun q2 => step (by have := of_decide_eq_true q2; omega), fun q2 => ?_⟩⟩
  have q := of_decide_eq_false q
  have q2 := of_decide_eq_false q2
  have e1 : m = 0 := by omega
  have e2 : (k - (l.length : Int)).toNat = 0 := by omega
  rw [e1, e2, digL_zero, List.nil_append] at h2
  unfold digB
  rw [h2]
theorem c_r5text (n : Int) (h : Fit n) : Ans Tryz.prog Φ 16 [num n] (.string (textB n)) := by
  refine fn_by hst (Sound.cons (by kernel_rfl) (fun args p v h hp => by unfold sDigits at h; split at h <;> cases h; exact c_r5digits hst _ _ hp) Sound.nil) (vc_r5text n _) ?_
  unfold Fit at h
  refine bcase_iff.mpr ⟨fun q => ?_, fun q => ?_⟩
  · have q := of_decide_eq_true q
    have e : IntKind.i64.wrap (0 - n) = ((n.natAbs : Nat) : Int) := by rw [wrap_in (by omega)]; omega
    have := txt_ok [45] (by decide) n.natAbs (by omega) (K := fun v => v = .string (textB n)) (by unfold textB textL; rw [if_pos q]; rfl)
    rw [← e] at this
    unfold txtTree at this
    exact this
  · have q := of_decide_eq_false q
    have e : n = ((n.natAbs : Nat) : Int) := by omega
    have := txt_ok [] (by decide) n.natAbs (by omega) (K := fun v => v = .string (textB n)) (by unfold textB textL; rw [if_neg q]; rfl)
    rw [← e] at this
    unfold txtTree at this
    exact this
theorem c_r5print (a b : Int) (h : Val a b) : Ans Tryz.prog Φ 14 [arc a b] (pair (.string (printB a b)) (num (pick (Fit (rnd a) ∧ Fit (rnd b)) 0 5))) := by
  refine fn_by hst (Sound.cons (by kernel_rfl) (fun args p v h hp => by unfold sRound at h; split at h <;> cases h; exact c_r5round hst _ hp)
    (Sound.cons (by kernel_rfl) (fun args p v h hp => by unfold sTextI at h; split at h <;> cases h; exact c_r5text hst _ hp) Sound.nil)) (vc_r5print a b _) ?_
  obtain ⟨h1, h2, h3⟩ := id h
  refine ⟨by omega, by omega, ?_⟩
  have mono : rnd a ≤ rnd b := by unfold rnd; omega
  have lo : -1099511627800 ≤ rnd a ∧ rnd b ≤ 1099511627800 := by unfold rnd; omega
  by_cases fa : Fit (rnd a)
  · by_cases fb : Fit (rnd b)
    · have pr : prints a b := ⟨h, fa, fb⟩
      rw [decide_eq_false (by unfold Fit at fa; omega), bcase_false, decide_eq_false (by unfold Fit at fb; omega), bcase_false, pick_yes ⟨fa, fb⟩]
      unfold printB
      rw [if_pos pr]
      unfold printL
      refine bcase_iff.mpr ⟨fun q => ⟨fa, ?_⟩, fun q => ⟨fa, ?_⟩⟩
      · rw [if_pos (eq_of_beq q)]; rfl
      · have q : ¬ rnd a = rnd b := fun e => by rw [e] at q; simp at q
        have s1 := textB_size fa
        have s2 := textB_size fb
        rw [if_neg q, not_long (by rw [sp_size]; omega), bcase_false]
        refine ⟨fb, ?_⟩
        rw [not_long (by rw [ByteArray.size_append, sp_size]; omega), bcase_false]
        unfold textB
        rw [show (ByteArray.mk #[32, 46, 46, 32]) = ⟨[32, 46, 46, 32].toArray⟩ from rfl, bytes_app, bytes_app]
    · have pr : ¬ prints a b := fun e => fb e.2.2
      have nb : rnd b > 1099511627776 := by unfold Fit at fb fa; omega
      rw [pick_no (fun e => fb e.2)]
      unfold printB
      rw [if_neg pr]
      unfold Fit at fa
      rw [decide_eq_false (by omega), bcase_false, decide_eq_true nb, bcase_true]
  · have pr : ¬ prints a b := fun e => fa e.2.1
    rw [pick_no (fun e => fa e.1)]
    unfold printB
    rw [if_neg pr]
    unfold Fit at fa
    refine bcase_iff.mpr ⟨fun _ => rfl, fun q => ?_⟩
    have q := of_decide_eq_false q
    rw [decide_eq_true (show rnd b > 1099511627776 by omega), bcase_true]
omit hst in
theorem itoa_neg {m : Nat} (h : 0 < m) : itoaB (-(m : Int)) = ⟨(45 :: Lib.decDigits m).toArray⟩ := by
  unfold itoaB Lib.itoa
  rw [if_pos (by omega), Int.natAbs_neg, Int.natAbs_natCast]
omit hst in
theorem itoa_pos (m : Nat) : itoaB (m : Int) = ⟨(Lib.decDigits m).toArray⟩ := by
  unfold itoaB
  rw [itoa_nat]
omit hst in
theorem itoa_len (n : Int) (h : I64 n) : (itoaB n).size ≤ 9223372036854775900 := by
  unfold I64 at h
  rcases Int.lt_or_le n 0 with q | q
  · have e : n = -((n.natAbs : Nat) : Int) := by omega
    rw [e, itoa_neg (by omega), size_mk, List.length_cons]
    have := dec_le n.natAbs
    omega
  · have e : n = ((n.natAbs : Nat) : Int) := by omega
    rw [e, itoa_pos, size_mk]
    have := dec_le n.natAbs
    omega
omit hst in
theorem toList_inj {a b : ByteArray} (h : a.toList = b.toList) : a = b := by
  rw [ByteArray.toList_eq, ByteArray.toList_eq] at h
  obtain ⟨⟨x⟩⟩ := a
  obtain ⟨⟨y⟩⟩ := b
  have h : x = y := h
  rw [h]
theorem c_eqS (xs ys : List ByteArray) (hx : xs.length ≤ 9223372036854775807) (hy : ys.length ≤ 9223372036854775807) : RAns Tryz.prog Φ 7 [.one (bR xs), .one (bR ys)] [.one (.v (.bool (decide (xs = ys))))] := by
  refine rfn_by hst Sound.nil (vc_eqS xs ys) ?_
  refine bcase_iff.mpr ⟨fun q => ⟨?_, trivial⟩, fun q => ?_⟩
  · have q : xs.length ≠ ys.length := fun e => by rw [e] at q; simp at q
    congr 1
    symm
    exact decide_eq_false (fun e => q (by rw [e]))
  have q : xs.length = ys.length := by have : ((xs.length : Nat) : Int) = (ys.length : Int) := by simpa using q
                                       omega
  refine ⟨0, ⟨rfl, rfl, rfl, rfl, rfl, rfl, trivial⟩, ⟨Nat.zero_le _, q, rfl⟩, fun i hi => ?_⟩
  obtain ⟨i0, _, i2⟩ := hi
  refine bcase_iff.mpr ⟨fun k => ?_, fun k => ?_⟩
  · have k : i < xs.length := by have := of_decide_eq_true k; omega
    have b1 : inB (i : Int) xs.length = true := by unfold inB; simp [k]
    have b2 : inB (i : Int) ys.length = true := by unfold inB; simp; omega
    rw [b1, b2, bcase_true, bcase_true, Int.toNat_natCast, show i.blt xs.length = true from Nat.ble_eq_true_of_le k, show i.blt ys.length = true from Nat.ble_eq_true_of_le (by omega), bcase_true, bcase_true, wrap_in (by omega)]
    have hx' : xs.getD i (ByteArray.mk #[]) = xs[i] := by simp [List.getD, k]
    have hy' : ys.getD i (ByteArray.mk #[]) = ys[i]'(by omega) := by simp [List.getD, show i < ys.length by omega]
    refine bcase_iff.mpr ⟨fun p => ⟨?_, trivial⟩, fun p => ?_⟩
    · congr 1
      symm
      refine decide_eq_false (fun e => ?_)
      subst e
      simp at p
    · have p : xs[i] = ys[i]'(by omega) := by rw [hx', hy'] at p; exact toList_inj (by simpa using p)
      refine ⟨i + 1, ⟨rfl, rfl, rfl, by omega, rfl, rfl, trivial⟩, ⟨k, q, ?_⟩, by omega⟩
      rw [List.take_succ_eq_append_getElem k, List.take_succ_eq_append_getElem (show i < ys.length by omega), i2, p]
  · have k : ¬ i < xs.length := fun e => of_decide_eq_false k (by omega)
    refine ⟨?_, trivial⟩
    congr 1
    symm
    rw [List.take_of_length_le (by omega), List.take_of_length_le (by omega)] at i2
    exact decide_eq_true i2
end
end Go.Proofs.YtidhogcijghogaaGreatDoor.Dp

/- The tables of dip and of its reference; the chapter's examples hold. -/
namespace Go.Proofs.YtidhogcijghogaaGreatDoor.Dp
open Go Go.Abs Go.RowKit
set_option linter.unusedVariables false
set_option linter.unusedSimpArgs false
theorem c_textI (n : Int) (h : Fit n) : Ans Tryz.prog Tabs 22 [num n] (.string (textB n)) := by
  intro w hw
  unfold textB textL
  by_cases q : n < 0
  · rw [if_pos q]
    have := text_neg n.natAbs (by omega) (by unfold Fit at h; omega) w hw
    rwa [show (-(n.natAbs : Int)) = n by omega] at this
  · rw [if_neg q]
    have := text_pos n.natAbs (by unfold Fit at h; omega) w hw
    rwa [show ((n.natAbs : Nat) : Int) = n by omega] at this
theorem c_itoa (n : Int) (h : I64 n) : Ans Tryz.prog Tabs 39 [num n] (.string (itoaB n)) := fun w hw => itoa_any n h w hw
theorem s_Pr : Sound Tryz.prog Tabs ΓPr :=
  Sound.cons (by kernel_rfl) (fun args p v h _ => by unfold sVal at h; split at h <;> cases h; exact c_valid st_tabs _ _)
  (Sound.cons (by kernel_rfl) (fun args p v h hp => by unfold sFloor at h; split at h <;> cases h; exact c_floor st_tabs _ _ hp.1 hp.2)
  (Sound.cons (by kernel_rfl) (fun args p v h _ => by unfold sFits at h; split at h <;> cases h; exact c_fits st_tabs _)
  (Sound.cons (by kernel_rfl) (fun args p v h hp => by unfold sTextI at h; split at h <;> cases h; exact c_textI _ hp) Sound.nil)))
theorem c_print (a b : Int) : Ans Tryz.prog Tabs 12 [arc a b] (pair (.string (printB a b)) (num (pick (Val a b) (pick (Fit (rnd a) ∧ Fit (rnd b)) 0 5) 1))) := by
  refine fn_by st_tabs s_Pr (vc_print a b _) ?_
  by_cases h : Val a b
  · obtain ⟨h1, h2, h3⟩ := id h
    have w1 : IntKind.i64.wrap (a + 50) = a + 50 := wrap_in (by omega)
    have w2 : IntKind.i64.wrap (b + 50) = b + 50 := wrap_in (by omega)
    have w3 : IntKind.i64.wrap ((a + 50) / 100 * 100) = rnd a := by rw [wrap_in (by omega)]; rfl
    have w4 : IntKind.i64.wrap ((b + 50) / 100 * 100) = rnd b := by rw [wrap_in (by omega)]; rfl
    simp only [w1, w2, w3, w4]
    simp only [bcase_iff, true_and, and_true, decide_eq_true_eq, decide_eq_false_iff_not, Bool.not_eq_true', Bool.not_eq_false', Bool.not_true, Bool.not_false, beq_iff_eq, beq_eq_false_iff_ne, bne_iff_ne, ne_eq, bne_eq_false_iff_eq, Decidable.not_not, ge_iff_le, gt_iff_lt, Bool.not_eq_true, Bool.and_eq_true, Bool.or_eq_true, forall_const, imp_false, implies_true, Bool.true_eq_false, Bool.false_eq_true, false_implies, true_implies, Int.not_lt, Int.not_le, Int.zero_sub]
    refine ⟨fun q => absurd h q, fun _ => ⟨⟨by unfold I64; omega, by unfold Den; omega⟩, ⟨by unfold I64; omega, by unfold Den; omega⟩, fun q => ?_, fun f1 => ⟨fun q => ?_, fun f2 => ⟨fun e => ⟨f1, ?_⟩, fun e => ⟨f1, ?_, fun _ => ⟨f2, ?_, fun _ => ?_⟩⟩⟩⟩⟩⟩
    · unfold printB prints pick; simp [h, q]
    · unfold printB prints pick; simp [h, f1, q]
    · unfold printB prints pick printL; simp [h, f1, f2, e, textB]
    · have := textB_size f1
      simp [not_long (a := textB (rnd a)) (b := ByteArray.mk #[32, 46, 46, 32]) (by rw [sp_size]; omega)]
    · have h1 := textB_size f1
      have h2 := textB_size f2
      simp [not_long (a := textB (rnd a) ++ ByteArray.mk #[32, 46, 46, 32]) (b := textB (rnd b)) (by rw [ByteArray.size_append, sp_size]; omega)]
    · unfold printB prints pick printL textB
      simp only [h, f1, f2, e, if_false, true_and, if_true, and_self]
      rw [show (ByteArray.mk #[32, 46, 46, 32]) = ⟨[32, 46, 46, 32].toArray⟩ from rfl, bytes_app, bytes_app]
  · simp only [bcase_iff, true_and, and_true, decide_eq_true_eq, decide_eq_false_iff_not, Bool.not_eq_true', Bool.not_eq_false', Bool.not_true, Bool.not_false, beq_iff_eq, beq_eq_false_iff_ne, bne_iff_ne, ne_eq, bne_eq_false_iff_eq, Decidable.not_not, ge_iff_le, gt_iff_lt, Bool.not_eq_true, Bool.and_eq_true, Bool.or_eq_true, forall_const, imp_false, implies_true, Bool.true_eq_false, Bool.false_eq_true, false_implies, true_implies, Int.not_lt, Int.not_le, Int.zero_sub]
    refine ⟨fun q => ?_, fun q => absurd q h⟩
    unfold printB prints pick; simp [h]
theorem s_Tb : Sound Tryz.prog Tabs ΓTb :=
  Sound.cons (by kernel_rfl) (fun args p v h hp => by unfold sPrint at h; split at h <;> cases h; exact c_print _ _)
  (Sound.cons (by kernel_rfl) (fun args p v h hp => by unfold sItoa at h; split at h <;> cases h; exact c_itoa _ hp) Sound.nil)
theorem s_T5 : Sound Tryz.prog Tabs ΓT5 :=
  Sound.cons (by kernel_rfl) (fun args p v h hp => by unfold sPrint5 at h; split at h <;> cases h; exact c_r5print st_tabs _ _ hp)
  (Sound.nil)
theorem dip_bd {n : Int} (h : Eye n) : 0 ≤ dLo n ∧ dLo n ≤ dHi n ∧ dHi n ≤ dLo n + 1 ∧ dHi n ≤ 17600 ∧ dLo n * dLo n ≤ 30976 * n ∧ 30976 * n < (dLo n + 1) * (dLo n + 1) := by
  unfold Eye at h
  have e : (176 * 176 * n : Int) = 30976 * n := by omega
  obtain ⟨s0, s1, s2⟩ := sq_spec (v := 176 * 176 * n) (by omega) (by omega)
  unfold dLo dHi rUp
  rw [e] at *
  have lt : sqI (30976 * n) < 17601 := sq_lt s0 (by decide) (by omega)
  refine ⟨s0, by split <;> omega, by split <;> omega, ?_, s1, s2⟩
  split
  · rename_i q
    have : sqI (30976 * n) < 17600 := sq_lt s0 (by decide) (by omega)
    omega
  · omega
theorem dip_val {n : Int} (h : Eye n) : Val (dLo n) (dHi n) ∧ Fit (rnd (dLo n)) ∧ Fit (rnd (dHi n)) := by
  obtain ⟨a, b, c, d, _, _⟩ := dip_bd h
  unfold Val Fit rnd
  omega
theorem print_size {a b : Int} (h : prints a b) : (printB a b).size ≤ 2199023255900 := by
  unfold printB printL
  rw [if_pos h]
  have h1 := textB_size h.2.1
  have h2 := textB_size h.2.2
  unfold textB at h1 h2
  rw [size_mk] at h1 h2 ⊢
  split
  · omega
  · simp; omega
theorem itoa_small {n : Int} (h : Eye n) : (itoaB n).size ≤ 10001 := by
  unfold Eye at h
  have e : n = ((n.natAbs : Nat) : Int) := by omega
  rw [e, itoa_pos, size_mk]
  have := dec_le n.natAbs
  omega
theorem linesT_succ {xs : List Int} {i : Nat} (h : i < xs.length) : linesT xs (i + 1) = linesT xs i ++ [lineB (xs.getD i 0)] := by
  unfold linesT
  rw [List.take_succ_eq_append_getElem h, List.map_append]
  simp [List.getD, h]
theorem linesT_len {xs : List Int} {i : Nat} (h : i ≤ xs.length) : (linesT xs i).length = i := by unfold linesT; simp; omega
theorem allEye_succ {xs : List Int} {i : Nat} (h : i < xs.length) (ha : AllEye (xs.take i)) (he : Eye (xs.getD i 0)) : AllEye (xs.take (i + 1)) := by
  rw [List.take_succ_eq_append_getElem h]
  intro x hx
  rcases List.mem_append.mp hx with q | q
  · exact ha x q
  · have : x = xs.getD i 0 := by simp [List.getD, h] at q ⊢; exact q
    rw [this]; exact he
theorem cap16 {n : Nat} (h : n ≤ 1001) : capOk n 16 = true := by
  unfold capOk
  rw [show Nat.ble (n * 16) 140737488355328 = true from Nat.ble_eq_true_of_le (by omega), show Nat.ble n maxLen = true from Nat.ble_eq_true_of_le (by have : maxLen = 9223372036854775807 := rfl; omega)]
  rfl
theorem inB_yes {j : Int} {n : Nat} (h0 : 0 ≤ j) (h1 : j < n) : inB j n = true := by unfold inB; simp [h0, h1]
theorem blt_yes {j n : Nat} (h : j < n) : j.blt n = true := Nat.ble_eq_true_of_le h
theorem notEye {xs : List Int} {i : Nat} (h : i < xs.length) (he : ¬ Eye (xs.getD i 0)) : ¬ AllEye xs := fun ha => he (by
  have : xs.getD i 0 = xs[i] := by simp [List.getD, h]
  rw [this]
  exact ha _ (List.getElem_mem h))
theorem tab_no {xs : List Int} (hl : xs.length ≤ 1000) (h : ¬ AllEye xs) : tabL xs = [] ∧ tabE xs = 2 := by
  unfold tabL tabE
  rw [if_neg (fun e => h e.2), if_neg (by omega), pick_no h]
  exact ⟨rfl, rfl⟩
theorem tab_big {xs : List Int} (hl : 1000 < xs.length) : tabL xs = [] ∧ tabE xs = 4 := by
  unfold tabL tabE
  rw [if_neg (fun e => by have := e.1; omega), if_pos hl]
  exact ⟨rfl, rfl⟩
theorem tab_yes {xs : List Int} (hl : xs.length ≤ 1000) (h : AllEye xs) : tabL xs = xs.map lineB ∧ tabE xs = 0 := by
  unfold tabL tabE
  rw [if_pos ⟨hl, h⟩, if_neg (by omega), pick_yes h]
  exact ⟨rfl, rfl⟩
theorem getD_I64 {xs : List Int} (h : ∀ x ∈ xs, I64 x) (i : Nat) : I64 (xs.getD i 0) := by
  by_cases q : i < xs.length
  · have : xs.getD i 0 = xs[i] := by simp [List.getD, q]
    rw [this]; exact h _ (List.getElem_mem q)
  · have : xs.getD i 0 = 0 := by simp [List.getD, q]
    rw [this]; unfold I64; omega
theorem line_long {n : Int} (h : Eye n) : tooLong (itoaB n) (ByteArray.mk #[32]) = false ∧ tooLong (itoaB n ++ ByteArray.mk #[32]) (printB (dLo n) (dHi n)) = false := by
  have h1 := itoa_small h
  have h2 := print_size (a := dLo n) (b := dHi n) (dip_val h)
  have h3 : (ByteArray.mk #[32]).size = 1 := rfl
  exact ⟨not_long (by omega), not_long (by rw [ByteArray.size_append]; omega)⟩
theorem sh_args : ∀ (args : List Value), ADSh (args.map fun x => AD.one (.v x)) args args
  | [] => rfl
  | a :: l => ⟨l, rfl, sh_args l⟩
theorem dr_args {w : World} : ∀ (args : List Value), CDRs w (flatCD (args.map fun x => AD.one (.v x))) args
  | [] => trivial
  | a :: l => ⟨rfl, dr_args l⟩
/-- The answer of a contract whose only result is a value. -/
theorem one_of {B : Nat} {w w' : World} {e : Ending} {v : Value} {cells : List Value} (h : Below B w w' ∧ ∃ rvs rcells gs, e = .returned (Go.Abs.oneV rvs) ∧ ADSh [.one (.v v)] rvs rcells ∧ CDN B w' cells (flatCD [.one (.v v)]) rcells gs ∧ gs.Nodup) : e = .returned v ∧ Below B w w' := by
  obtain ⟨hb, rvs, rcells, gs, he, hs, hc, _⟩ := h
  refine ⟨?_, hb⟩
  cases rvs with
  | nil => exact hs.elim
  | cons r rvs =>
    obtain ⟨cs, rfl, hs⟩ := hs
    cases rvs with
    | nil =>
      have : r = v := hc.1
      subst this
      exact he
    | cons _ _ => exact hs.elim
/-- A contract of values alone. -/
theorem ans_of {P : Program} {Φ : World → Prop} {f : FuncId} {args : List Value} {v : Value} (h : RAns P Φ f (args.map fun x => AD.one (.v x)) [.one (.v v)]) : Ans P Φ f args v := fun w hw =>
  (h w args args hw (sh_args args) (dr_args args)).mono fun _ _ q => one_of q
theorem s_Aw : Sound Tryz.prog Tabs (ΓAw tabL tabE) :=
  Sound.rcons (by kernel_rfl) (fun ads p rds h hp => by unfold sEqS at h; split at h <;> cases h; exact c_eqS st_tabs _ _ hp.1 hp.2) Sound.nil
theorem dec1000 : Lib.decDigits 1000 = [49, 48, 48, 48] := by
  rw [dec_ge 1000 (by omega), show 1000 / 10 = 100 from rfl, dec_ge 100 (by omega), show 100 / 10 = 10 from rfl, dec_ge 10 (by omega), show 10 / 10 = 1 from rfl, dec_lt 1 (by omega)]
  rfl
theorem line1000 : lineB 1000 = ByteArray.mk #[49, 48, 48, 48, 32, 48, 45, 48, 53, 46, 54] := by
  have e1 : itoaB 1000 = ⟨[49, 48, 48, 48].toArray⟩ := by
    have := itoa_pos 1000
    rw [dec1000] at this
    exact this
  have e2 : dLo 1000 = 5565 := by decide +kernel
  have e3 : dHi 1000 = 5566 := by decide +kernel
  have pr : prints 5565 5566 := by decide
  have e4 : printB 5565 5566 = ⟨[48, 45, 48, 53, 46, 54].toArray⟩ := by
    unfold printB
    rw [if_pos pr]
    unfold printL
    rw [if_pos (by decide)]
    have : rnd 5565 = 5600 := by decide
    rw [this]
    unfold textL
    rw [if_neg (by decide)]
    unfold coreL padL
    rw [show (5600 : Int).natAbs = 5600 from rfl, show 5600 / 60000 = 0 from rfl, show 5600 % 60000 / 1000 = 5 from rfl, show 5600 % 1000 / 100 = 6 from rfl, if_pos (by decide), dec_lt 0 (by omega), dec_lt 5 (by omega), dec_lt 6 (by omega)]
    rfl
  unfold lineB
  rw [e1, e2, e3, e4, bytes_app, bytes_app]
  rfl
end Go.Proofs.YtidhogcijghogaaGreatDoor.Dp
