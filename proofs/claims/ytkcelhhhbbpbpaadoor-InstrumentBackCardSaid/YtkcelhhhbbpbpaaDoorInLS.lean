/- The two laws of texts of instruments: what they call. -/
import Derived.Test.YtkcelhhhbbpbpaaDoorInHS
namespace Go.Proofs.YtkcelhhhbbpbpaaDoor
open Go Go.Abs Go.RowKit
set_option linter.unusedVariables false
def ΓLw (it : Int → List (Int × Int) → ByteArray) (te : Int → List (Int × Int) → Int) (vd : Int → List (Int × Int) → Bool) (px : ByteArray → Int) (py : ByteArray → List (Int × Int)) (pn pc pe : ByteArray → Int) (sm : Int → List (Int × Int) → Int → List (Int × Int) → Bool) : List (FuncId × CSpec) := [
  (5, .v (fun | [] => some (True, .bool true) | _ => none)),
  (7, .r (fun | [.agg [.v (.int .i64 k), .r 48 (.pair (.int .i64) (.int .i64)) xs]] => some (True, [.one (.v (.string (it k xs))), .one (.v (.int .i64 (te k xs)))]) | _ => none)),
  (13, .r (fun | [.agg [.v (.int .i64 k), .r 48 (.pair (.int .i64) (.int .i64)) xs]] => some (True, [.one (.v (.bool (vd k xs)))]) | _ => none)),
  (8, .r (fun | [.agg [.v (.int .i64 k), .r 48 (.pair (.int .i64) (.int .i64)) xs]] => some (True, [.one (.v (.bool (vd k xs)))]) | _ => none)),
  (9, .r (fun | [.agg [.v (.int .i64 k), .r 48 (.pair (.int .i64) (.int .i64)) xs]] => some (vd k xs = true, [.one (.v (.string (it k xs)))]) | _ => none)),
  (10, .r (fun | [.one (.v (.string s))] => some (SL s, [.agg [.v (.int .i64 (px s)), .r 48 (.pair (.int .i64) (.int .i64)) (py s)], .one (.v (.agg ⟨[.int .i64 (pn s), .int .i64 (pc s)]⟩)), .one (.v (.int .i64 (pe s)))]) | _ => none)),
  (11, .r (fun | [.one (.v (.string s))] => some (SL s, [.agg [.v (.int .i64 (px s)), .r 48 (.pair (.int .i64) (.int .i64)) (py s)], .one (.v (.int .i64 (pn s))), .one (.v (.int .i64 (pe s)))]) | _ => none)),
  (12, .r (fun | [.agg [.v (.int .i64 k), .r 48 (.pair (.int .i64) (.int .i64)) xs], .agg [.v (.int .i64 j), .r 48 (.pair (.int .i64) (.int .i64)) ys]] => some (xs.length ≤ 1000000, [.one (.v (.bool (sm k xs j ys)))]) | _ => none))]
end Go.Proofs.YtkcelhhhbbpbpaaDoor
