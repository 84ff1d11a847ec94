/- What is said of the loops of dip, of its reference and of its laws; the lists of what is known. -/
import Derived.Test.YtofnffcdbbiohaaDoorDpSpecD
namespace Go.Proofs.YtofnffcdbbiohaaDoor.Dp
open Go Go.Abs Go.RowKit
set_option linter.unusedVariables false
/-- A row of strings, and one of ints, of the call's own. -/
abbrev rowS (l : List ByteArray) : List Blk := [⟨9, [], some true, some ⟨.str, l, false⟩⟩, deadB]
abbrev rowN (l : List Int) : List Blk := [⟨3, [], some true, some ⟨.int .i64, l, false⟩⟩, deadB]
/-- dip's root: two bounds. -/
def annRootD (V : Int) : Ann where
  σ := Int × Int
  st := fun s x => ⟨lset (lset (keepA s 43 [0, 1, 4, 5]) 6 (.v (.int .i64 x.1))) 7 (.v (.int .i64 x.2)), s.hp⟩
  inv := fun _ x => 0 ≤ x.1 ∧ x.1 < x.2 ∧ x.2 ≤ 2097152 ∧ x.1 * x.1 ≤ V ∧ V < x.2 * x.2
  μ := fun _ x => (x.2 - x.1).toNat
def ARootD (V : Int) : FuncId → List (Nat × LoopBy) := fun _ => [(0, .ann (annRootD V))]
def bitP : Nat → Int
  | 0 => 0
  | k + 1 => 2 ^ k
/-- The reference's root: the root so far, and how many bits are still to come. -/
def annIsq (V : Int) : Ann where
  σ := Int × Nat
  st := fun s x => ⟨lset (lset (keepA s 22 [0]) 3 (.v (.int .i64 x.1))) 4 (.v (.int .i64 (bitP x.2))), s.hp⟩
  inv := fun _ x => x.2 ≤ 31 ∧ 0 ≤ x.1 ∧ x.1 + 2 ^ x.2 ≤ 2 ^ 31 ∧ rootI x.2 V x.1 = rootI 31 V 0
  μ := fun _ x => x.2
def AIsq (V : Int) : FuncId → List (Nat × LoopBy) := fun _ => [(0, .ann (annIsq V))]
/-- slices.Equal: those before are equal. -/
def annEqS (xs ys : List ByteArray) : Ann where
  σ := Nat
  st := fun s i => ⟨lset (keepA s 26 [0, 1, 12]) 13 (.v (.int .i64 i)), s.hp⟩
  inv := fun _ i => i ≤ xs.length ∧ xs.length = ys.length ∧ xs.take i = ys.take i
  μ := fun _ i => xs.length - i
def AEqS (xs ys : List ByteArray) : FuncId → List (Nat × LoopBy) := fun _ => [(0, .ann (annEqS xs ys))]
/-- The reference's digits: what is left, and the digits so far. -/
def annDig (N K : Int) : Ann where
  σ := Nat × List UInt8
  st := fun s x => ⟨lset (lset (lset (keepA s 25 []) 0 (.v (.int .i64 x.1))) 1 (.v (.int .i64 (K - x.2.length)))) 5 (.v (.string ⟨x.2.toArray⟩)), s.hp⟩
  inv := fun _ x => (x.1 : Int) ≤ N ∧ digL x.1 (K - x.2.length).toNat ++ x.2 = digL N.toNat K.toNat
  μ := fun _ x => x.1 + (K - x.2.length).toNat
def ADig (N K : Int) : FuncId → List (Nat × LoopBy) := fun _ => [(0, .ann (annDig N K))]
/-- The lines so far. -/
def linesT (xs : List Int) (i : Nat) : List ByteArray := (xs.take i).map lineB
def annTab (xs : List Int) : Ann where
  σ := Nat
  st := fun s i => ⟨lset (lset (keepA s 45 [0, 13, 14]) 15 (.v (.int .i64 i))) 4 (.os s.hp.length (linesT xs i).length), s.hp ++ rowS (linesT xs i)⟩
  inv := fun _ i => i ≤ xs.length ∧ AllEye (xs.take i)
  μ := fun _ i => xs.length - i
def ATab (xs : List Int) : FuncId → List (Nat × LoopBy) := fun _ => [(0, .ann (annTab xs))]
def annTab5 (xs : List Int) : Ann where
  σ := Nat
  st := fun s i => ⟨lset (lset (keepA s 50 [0]) 5 (.v (.int .i64 i))) 4 (.os s.hp.length (linesT xs i).length), s.hp ++ rowS (linesT xs i)⟩
  inv := fun _ i => i ≤ xs.length ∧ AllEye (xs.take i)
  μ := fun _ i => xs.length - i
def ATab5 (xs : List Int) : FuncId → List (Nat × LoopBy) := fun _ => [(0, .ann (annTab5 xs))]
/-- DipLines: the heights so far; then the lines that were looked at. -/
def eyesT (xs : List Int) (i : Nat) : List Int := (xs.take i).map fun x => x % 10001
def annLn (xs : List Int) : Ann where
  σ := Nat
  st := fun s i => ⟨lset (lset (keepA s 82 [0, 19, 20]) 21 (.v (.int .i64 i))) 3 (.os s.hp.length (eyesT xs i).length), s.hp ++ rowN (eyesT xs i)⟩
  inv := fun _ i => i ≤ xs.length
  μ := fun _ i => xs.length - i
def annLn2 (xs : List Int) : Ann where
  σ := Nat
  st := fun s i => ⟨lset (keepA s 82 [3, 6, 46, 47]) 48 (.v (.int .i64 i)), s.hp⟩
  inv := fun _ i => i ≤ xs.length
  μ := fun _ i => xs.length - i
def ALn (xs : List Int) : FuncId → List (Nat × LoopBy) := fun _ => [(0, .ann (annLn xs)), (2, .ann (annLn2 xs))]
def ΓF : List (FuncId × CSpec) := [(25, .v sFits)]
def ΓPr : List (FuncId × CSpec) := [(14, .v sVal), (32, .v sFloor), (25, .v sFits), (33, .v sTextI)]
def ΓTx : List (FuncId × CSpec) := []
def ΓP5 : List (FuncId × CSpec) := []
def ΓQt : List (FuncId × CSpec) := [(17, .v sFloor)]
def ΓDp : List (FuncId × CSpec) := [(21, .v sRootD), (22, .v sQuot)]
def ΓEn : List (FuncId × CSpec) := []
def ΓD5 : List (FuncId × CSpec) := []
def ΓTb : List (FuncId × CSpec) := [(9, .v sDip), (23, .v sPrint), (24, .v sItoa)]
def ΓT5 : List (FuncId × CSpec) := []
def ΓDc (k : Nat) : List (FuncId × CSpec) := []
/-- The table, by any names. -/
def sTabC (tL : List Int → List ByteArray) (tE : List Int → Int) : RSpec := fun | [.one (.r 3 (.int .i64) xs)] => some ((∀ x ∈ xs, I64 x) ∧ xs.length ≤ 9223372036854775807, [.one (bR (tL xs)), .one (.v (num (tE xs)))]) | _ => none
abbrev oneV (x : Value) : AD := .one (.v x)
def sYes : FSpec := fun | [] => some (True, .bool true) | _ => none
def ΓAw (tL : List Int → List ByteArray) (tE : List Int → Int) : List (FuncId × CSpec) := [(9, .v sDip), (10, .v sShort), (11, .v sVisible), (12, .r (sTabC tL tE)), (13, .r sEqS)]
def ΓLw : List (FuncId × CSpec) := [(4, .v sYes), (9, .v sDip), (10, .v sShort), (11, .v sVisible), (12, .r sTab), (13, .r sEqS), (23, .v sPrint), (24, .v sItoa)]
end Go.Proofs.YtofnffcdbbiohaaDoor.Dp
