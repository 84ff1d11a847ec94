/- Texts of instruments: lists of callees, heads of loops. -/
import Derived.Test.YtkcelhhhbbpbpaaDoorTxS
import Derived.Test.YtkcelhhhbbpbpaaDoorInP
import Derived.Test.YtkcelhhhbbpbpaaDoorSpl
namespace Go.Proofs.YtkcelhhhbbpbpaaDoor
open Go Go.Abs Go.RowKit
set_option linter.unusedVariables false
abbrev pE2 : ET := .pair (.int .i64) (.int .i64)
abbrev insA (k : Int) (xs : List (Int × Int)) : AD := .agg [.v (num k), .r 48 pE2 xs]
def ΓNm (pv pe : ByteArray → Int) (ot : Int → ByteArray) (te : Int → Int) : List (FuncId × CSpec) := [(49, .v (sParI pv pe)),
  (17, .v (fun | [.int .i64 n] => some (True, pair (.string (ot n)) (num (te n))) | _ => none))]
 where sParI (pv pe : ByteArray → Int) : FSpec := fun | [.string s] => some (SL s, pair (num (pv s)) (num (pe s))) | _ => none
def ΓIg (pv pe : ByteArray → Int) (ot : Int → ByteArray) : List (FuncId × CSpec) := [(38, .v (ΓNm.sParI pv pe)), (19, .v (fun | [.int .i64 n] => some (Fit n, .string (ot n)) | _ => none))]
structure NoAt (l : List UInt8) (c : UInt8) (i : Nat) : Prop where
  le : i ≤ l.length
  no : c ∉ l.take i
def annLn (l : List UInt8) (a : Nat) : Ann where
  σ := Nat
  st := fun s i => ⟨lset (keepA s 22 [0, 1]) 6 (.v (.int .i64 ((a + i : Nat) : Int))), s.hp⟩
  inv := fun _ i => NoAt l 10 i
  μ := fun _ i => l.length - i
def ALn (l : List UInt8) (a : Nat) : FuncId → List (Nat × LoopBy) := fun _ => [(0, .ann (annLn l a))]
def annEn (l : List UInt8) : Ann where
  σ := Nat
  st := fun s i => ⟨lset (keepA s 52 [2, 4]) 6 (.v (.int .i64 (i : Int))), s.hp⟩
  inv := fun _ i => NoAt l 32 i
  μ := fun _ i => l.length - i
def AEn (l : List UInt8) : FuncId → List (Nat × LoopBy) := fun _ => [(0, .ann (annEn l))]
def WdOk (s q : ByteArray) : Prop := SL s ∧ q.size ≤ 100
def ΓEn (wd : ByteArray → ByteArray → ByteArray) (wo : ByteArray → ByteArray → Bool) (iv : ByteArray → Int) (io : ByteArray → Bool) : List (FuncId × CSpec) := [
  (23, .v (fun | [.string s, .string q] => some (WdOk s q, .tuple ⟨[.string (wd s q), .bool (wo s q)]⟩) | _ => none)),
  (24, .v (fun | [.string s] => some (SL s, .tuple ⟨[.int .i64 (iv s), .bool (io s)]⟩) | _ => none))]
/-! The texts. -/
def insB (k : Int) (xs : List (Int × Int)) (i : Nat) : ByteArray := ⟨(insT k (xs.take i)).toArray⟩
def annIt (k : Int) (xs : List (Int × Int)) : Ann where
  σ := Nat
  st := fun s i => ⟨lset (lset (lset (keepA s 63 [26, 27]) 5 (.v (num 0))) 6 (.v (.string (insB k xs i)))) 28 (.v (.int .i64 (i : Int))), s.hp⟩
  inv := fun _ i => i ≤ xs.length
  μ := fun _ i => xs.length - i
def AIt (k : Int) (xs : List (Int × Int)) : FuncId → List (Nat × LoopBy) := fun _ => [(0, .ann (annIt k xs))]
def annRt (k : Int) (xs : List (Int × Int)) : Ann where
  σ := Nat
  st := fun s i => ⟨lset (lset (keepA s 38 [1]) 3 (.v (.string (insB k xs i)))) 4 (.v (.int .i64 (i : Int))), s.hp⟩
  inv := fun _ i => i ≤ xs.length
  μ := fun _ i => xs.length - i
def ARt (k : Int) (xs : List (Int × Int)) : FuncId → List (Nat × LoopBy) := fun _ => [(0, .ann (annRt k xs))]
def ΓIt (vd : Int → List (Int × Int) → Bool) (ot : Int → ByteArray) (te : Int → Int) : List (FuncId × CSpec) := [
  (13, .r (fun | [.agg [.v (.int .i64 k), .r 48 (.pair (.int .i64) (.int .i64)) xs]] => some (True, [.one (.v (.bool (vd k xs)))]) | _ => none)),
  (17, .v (fun | [.int .i64 n] => some (True, pair (.string (ot n)) (num (te n))) | _ => none))]
def ΓRx (ot : Int → ByteArray) : List (FuncId × CSpec) := [(19, .v (fun | [.int .i64 n] => some (Fit n, .string (ot n)) | _ => none))]
def annSm (xs ys : List (Int × Int)) : Ann where
  σ := Nat
  st := fun s i => ⟨lset (keepA s 38 [2, 3]) 5 (.v (.int .i64 (i : Int))), s.hp⟩
  inv := fun _ i => i ≤ xs.length ∧ xs.take i = ys.take i
  μ := fun _ i => xs.length - i
def ASm (xs ys : List (Int × Int)) : FuncId → List (Nat × LoopBy) := fun _ => [(0, .ann (annSm xs ys))]
/-! A line. -/
def ΓLn (cs : ByteArray → ByteArray → ByteArray) (co : ByteArray → ByteArray → Bool) (ps : ByteArray → ByteArray → List ByteArray) (nv : ByteArray → Int) (no : ByteArray → Bool) : List (FuncId × CSpec) := [
  (35, .v (fun | [.string s, .string q] => some (WdOk s q, .tuple ⟨[.string (cs s q), .bool (co s q)]⟩) | _ => none)),
  (36, .r (fun | [.one (.v (.string s)), .one (.v (.string q))] => some (WdOk s q ∧ 1 ≤ q.size, [.one (.r 9 .str (ps s q))]) | _ => none)),
  (37, .v (fun | [.string s] => some (SL s, .tuple ⟨[.int .i64 (nv s), .bool (no s)]⟩) | _ => none))]
def ALine : FuncId → List (Nat × LoopBy) := fun _ => [(0, .times 3)]
end Go.Proofs.YtkcelhhhbbpbpaaDoor
