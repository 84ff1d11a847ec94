/- A further entry: what is known of the callees of the law. -/
import Derived.Test.YtdjlickmjfpokaaStrJ
namespace Go.Proofs.Ytdjlickmjfpokaa
open Go Go.Abs Go.RowKit
set_option linter.unusedVariables false
abbrev num (n : Int) : Value := .int .i64 n
abbrev insA (k : Int) (xs : List (Int × Int)) : AD := .agg [.v (num k), .r 42 pE2 xs]
def Few (ys : List (Int × Int)) : Prop := ys.length ≤ 1000
def InsOk (xs : List (Int × Int)) (i : Int) : Prop := 1 ≤ xs.length ∧ xs.length ≤ 1000 ∧ 0 ≤ i ∧ i ≤ xs.length
/-- A list with one entry more, at a number. -/
def insI (xs : List (Int × Int)) (i : Int) (e : Int × Int) : List (Int × Int) := ins xs i.toNat e
def insSp (xs : List (Int × Int)) (i : Int) (ys : List (Int × Int)) : Option (Prop × List (Int × Int)) := match ys with | [e] => some (InsOk xs i, insI xs i e) | _ => none
def BsfOk (xs : List (Int × Int)) (n : Int) (f : FuncId) : Prop := xs.length ≤ 100 ∧ -100000000 ≤ n ∧ n ≤ 100000000 ∧ f = 24 ∧ Asc xs ∧ ∀ k, k < xs.length → 0 ≤ atAt xs k ∧ atAt xs k ≤ 100000000
def ΓSt (vd : Int → List (Int × Int) → Bool) (cl ch ce : Int → List (Int × Int) → Int → Int) (bp : List (Int × Int) → Int → Int) (bt : List (Int × Int) → Int → Bool) : List (FuncId × CSpec) := [
  (9, .v (fun | [] => some (True, .bool true) | _ => none)),
  (17, .r (fun | [.agg [.v (.int .i64 k), .r 42 (.pair (.int .i64) (.int .i64)) xs]] => some (True, [.one (.v (.bool (vd k xs)))]) | _ => none)),
  (15, .r (fun | [.agg [.v (.int .i64 k), .r 42 (.pair (.int .i64) (.int .i64)) xs], .one (.v (.int .i64 h))] => some (True, [.agg [.v (num (cl k xs h)), .v (num (ch k xs h))], .one (.v (num (ce k xs h)))]) | _ => none)),
  (23, .r (fun | [.one (.r 42 (.pair (.int .i64) (.int .i64)) xs), .one (.v (.int .i64 n)), .one (.v (.func (.func f) ⟨[]⟩ ⟨[]⟩))] => some (BsfOk xs n f, [.one (.v (num (bp xs n))), .one (.v (.bool (bt xs n)))]) | _ => none)),
  (26, .o ⟨42, pE2, Few⟩),
  (25, .w ⟨42, pE2, insSp⟩)]
end Go.Proofs.Ytdjlickmjfpokaa
