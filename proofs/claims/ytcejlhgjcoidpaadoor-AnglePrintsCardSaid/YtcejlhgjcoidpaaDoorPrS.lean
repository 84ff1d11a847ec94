/- What the law of printed angles calls. -/
import Derived.Test.YtcejlhgjcoidpaaDoorTxL
import Derived.Test.YtcejlhgjcoidpaaDoorSpl
namespace Go.Proofs.YtcejlhgjcoidpaaDoor
open Go Go.Abs Go.RowKit
set_option linter.unusedVariables false
def SpOk (s q : ByteArray) : Prop := s.size ≤ 4000 ∧ 1 ≤ q.size
def ΓLP (ps : ByteArray → ByteArray → List ByteArray) (pr : Int → Int → ByteArray) (e1 e2 : Int → Int → Int) (pv pe : ByteArray → Int) : List (FuncId × CSpec) := [(11, .v sYes),
  (43, .v (fun | [.agg ⟨[.int .i64 a, .int .i64 b]⟩] => some (True, pair (.string (pr a b)) (num (e1 a b))) | _ => none)),
  (44, .v (fun | [.agg ⟨[.int .i64 a, .int .i64 b]⟩] => some (Val a b, pair (.string (pr a b)) (num (e2 a b))) | _ => none)),
  (45, .r (fun | [.one (.v (.string s)), .one (.v (.string q))] => some (SpOk s q, [.one (.r 9 .str (ps s q))]) | _ => none)),
  (40, .v (sPar pv pe))]
end Go.Proofs.YtcejlhgjcoidpaaDoor
