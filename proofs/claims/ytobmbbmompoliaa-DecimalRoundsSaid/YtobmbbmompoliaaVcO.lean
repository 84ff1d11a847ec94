/- What the program's rounding and the law of nearness ask. -/
import Derived.Test.YtobmbbmompoliaaSpecO
namespace Go.Proofs.Ytobmbbmompoliaa
open Go Go.Abs Go.RowKit
set_option linter.unusedVariables false
set_option linter.unusedSimpArgs false
theorem vc_round1 (lo hi u : Int) (K : Value → Prop) : callsX Try.prog (ΓR1) (noAnn) 12 [num lo, num hi, num u] K = (
 True ∧
 bcase (erR lo hi u == 0) (bcase (gate (okR lo hi u) (mulI lo u) != gate (okR lo hi u) (mulI hi u)) (K (Value.tuple #[Value.int IntKind.i64 0, Value.int IntKind.i64 24])) (K (Value.tuple #[Value.int IntKind.i64 (gate (okR lo hi u) (mulI lo u)), Value.int IntKind.i64 (erR lo hi u)]))) (K (Value.tuple #[Value.int IntKind.i64 (gate (okR lo hi u) (mulI lo u)), Value.int IntKind.i64 (erR lo hi u)]))) := by kernel_rfl
theorem vc_near1 (lo w u a : Int) (K : Value → Prop) : callsX Try.prog (ΓNr) (ANear) 5 [num lo, .int .u16 w, num u, .int .u16 a] K = (
 True ∧
 bcase (decide (lo < -1125899906842624)) (K (Value.bool true))
 (bcase (decide (lo > 1125899906842624)) (K (Value.bool true))
 (bcase (decide (u < 1)) (K (Value.bool true))
 (bcase (decide (u > 1099511627776)) (K (Value.bool true))
 (bcase (IntKind.i64.wrap (IntKind.i64.wrap w + 1) == 0) False
 (True ∧
 True ∧
 True ∧
 bcase (er1 lo lo u != 0) (K (Value.bool false))
 (bcase (er1 (IntKind.i64.wrap (lo + IntKind.i64.wrap w)) (IntKind.i64.wrap (lo + IntKind.i64.wrap w)) u != 0) (K (Value.bool false))
 (bcase (er1 (IntKind.i64.wrap (lo + (IntKind.i64.wrap a).tmod (IntKind.i64.wrap (IntKind.i64.wrap w + 1)))) (IntKind.i64.wrap (lo + (IntKind.i64.wrap a).tmod (IntKind.i64.wrap (IntKind.i64.wrap w + 1)))) u != 0) (K (Value.bool false))
 (bcase (decide (gate (ok1 lo lo u) (mulI lo u) < -2251799813685248)) (K (Value.bool false))
 (bcase (decide (gate (ok1 (IntKind.i64.wrap (lo + IntKind.i64.wrap w)) (IntKind.i64.wrap (lo + IntKind.i64.wrap w)) u) (mulI (IntKind.i64.wrap (lo + IntKind.i64.wrap w)) u) > 2251799813685248)) (K (Value.bool false))
 (bcase (decide (gate (ok1 lo lo u) (mulI lo u) > gate (ok1 (IntKind.i64.wrap (lo + (IntKind.i64.wrap a).tmod (IntKind.i64.wrap (IntKind.i64.wrap w + 1)))) (IntKind.i64.wrap (lo + (IntKind.i64.wrap a).tmod (IntKind.i64.wrap (IntKind.i64.wrap w + 1)))) u) (mulI (IntKind.i64.wrap (lo + (IntKind.i64.wrap a).tmod (IntKind.i64.wrap (IntKind.i64.wrap w + 1)))) u))) (K (Value.bool false))
 (bcase
 (decide
 (gate (ok1 (IntKind.i64.wrap (lo + (IntKind.i64.wrap a).tmod (IntKind.i64.wrap (IntKind.i64.wrap w + 1)))) (IntKind.i64.wrap (lo + (IntKind.i64.wrap a).tmod (IntKind.i64.wrap (IntKind.i64.wrap w + 1)))) u) (mulI (IntKind.i64.wrap (lo + (IntKind.i64.wrap a).tmod (IntKind.i64.wrap (IntKind.i64.wrap w + 1)))) u) >
 gate (ok1 (IntKind.i64.wrap (lo + IntKind.i64.wrap w)) (IntKind.i64.wrap (lo + IntKind.i64.wrap w)) u) (mulI (IntKind.i64.wrap (lo + IntKind.i64.wrap w)) u)))
 (K (Value.bool false))
 (bcase (u == 0) False
 (bcase (decide (gate (ok1 lo lo u) (mulI lo u) < IntKind.i64.wrap (IntKind.i64.wrap ((-2251799813685248).tdiv u) - 1))) (K (Value.bool false))
 (bcase (u == 0) False
 (bcase (decide (gate (ok1 lo lo u) (mulI lo u) > IntKind.i64.wrap (IntKind.i64.wrap (Int.tdiv 2251799813685248 u) + 1))) (K (Value.bool false))
 (bcase (decide (IntKind.i64.wrap (2 * IntKind.i64.wrap (lo - IntKind.i64.wrap (u * gate (ok1 lo lo u) (mulI lo u)))) < IntKind.i64.wrap (0 - u))) (K (Value.bool false))
 (bcase (decide (IntKind.i64.wrap (2 * IntKind.i64.wrap (lo - IntKind.i64.wrap (u * gate (ok1 lo lo u) (mulI lo u)))) ≥ u)) (K (Value.bool false))
 (bcase (u == 0) False
 (bcase (decide (gate (ok1 (IntKind.i64.wrap (lo + (IntKind.i64.wrap a).tmod (IntKind.i64.wrap (IntKind.i64.wrap w + 1)))) (IntKind.i64.wrap (lo + (IntKind.i64.wrap a).tmod (IntKind.i64.wrap (IntKind.i64.wrap w + 1)))) u) (mulI (IntKind.i64.wrap (lo + (IntKind.i64.wrap a).tmod (IntKind.i64.wrap (IntKind.i64.wrap w + 1)))) u) < IntKind.i64.wrap (IntKind.i64.wrap ((-2251799813685248).tdiv u) - 1)))
 (K (Value.bool false))
 (bcase (u == 0) False
 (bcase (decide (gate (ok1 (IntKind.i64.wrap (lo + (IntKind.i64.wrap a).tmod (IntKind.i64.wrap (IntKind.i64.wrap w + 1)))) (IntKind.i64.wrap (lo + (IntKind.i64.wrap a).tmod (IntKind.i64.wrap (IntKind.i64.wrap w + 1)))) u) (mulI (IntKind.i64.wrap (lo + (IntKind.i64.wrap a).tmod (IntKind.i64.wrap (IntKind.i64.wrap w + 1)))) u) > IntKind.i64.wrap (IntKind.i64.wrap (Int.tdiv 2251799813685248 u) + 1)))
 (K (Value.bool false))
 (bcase
 (decide
 (IntKind.i64.wrap
 (2 *
 IntKind.i64.wrap
 (IntKind.i64.wrap (lo + (IntKind.i64.wrap a).tmod (IntKind.i64.wrap (IntKind.i64.wrap w + 1))) -
 IntKind.i64.wrap (u * gate (ok1 (IntKind.i64.wrap (lo + (IntKind.i64.wrap a).tmod (IntKind.i64.wrap (IntKind.i64.wrap w + 1)))) (IntKind.i64.wrap (lo + (IntKind.i64.wrap a).tmod (IntKind.i64.wrap (IntKind.i64.wrap w + 1)))) u) (mulI (IntKind.i64.wrap (lo + (IntKind.i64.wrap a).tmod (IntKind.i64.wrap (IntKind.i64.wrap w + 1)))) u)))) <
 IntKind.i64.wrap (0 - u)))
 (K (Value.bool false))
 (bcase
 (decide
 (IntKind.i64.wrap
 (2 *
 IntKind.i64.wrap
 (IntKind.i64.wrap (lo + (IntKind.i64.wrap a).tmod (IntKind.i64.wrap (IntKind.i64.wrap w + 1))) -
 IntKind.i64.wrap (u * gate (ok1 (IntKind.i64.wrap (lo + (IntKind.i64.wrap a).tmod (IntKind.i64.wrap (IntKind.i64.wrap w + 1)))) (IntKind.i64.wrap (lo + (IntKind.i64.wrap a).tmod (IntKind.i64.wrap (IntKind.i64.wrap w + 1)))) u) (mulI (IntKind.i64.wrap (lo + (IntKind.i64.wrap a).tmod (IntKind.i64.wrap (IntKind.i64.wrap w + 1)))) u)))) ≥
 u))
 (K (Value.bool false))
 (bcase (u == 0) False
 (bcase (decide (gate (ok1 (IntKind.i64.wrap (lo + IntKind.i64.wrap w)) (IntKind.i64.wrap (lo + IntKind.i64.wrap w)) u) (mulI (IntKind.i64.wrap (lo + IntKind.i64.wrap w)) u) < IntKind.i64.wrap (IntKind.i64.wrap ((-2251799813685248).tdiv u) - 1))) (K (Value.bool false))
 (bcase (u == 0) False
 (bcase (decide (gate (ok1 (IntKind.i64.wrap (lo + IntKind.i64.wrap w)) (IntKind.i64.wrap (lo + IntKind.i64.wrap w)) u) (mulI (IntKind.i64.wrap (lo + IntKind.i64.wrap w)) u) > IntKind.i64.wrap (IntKind.i64.wrap (Int.tdiv 2251799813685248 u) + 1))) (K (Value.bool false))
 (bcase (decide (IntKind.i64.wrap (2 * IntKind.i64.wrap (IntKind.i64.wrap (lo + IntKind.i64.wrap w) - IntKind.i64.wrap (u * gate (ok1 (IntKind.i64.wrap (lo + IntKind.i64.wrap w)) (IntKind.i64.wrap (lo + IntKind.i64.wrap w)) u) (mulI (IntKind.i64.wrap (lo + IntKind.i64.wrap w)) u)))) < IntKind.i64.wrap (0 - u))) (K (Value.bool false))
 (bcase (decide (IntKind.i64.wrap (2 * IntKind.i64.wrap (IntKind.i64.wrap (lo + IntKind.i64.wrap w) - IntKind.i64.wrap (u * gate (ok1 (IntKind.i64.wrap (lo + IntKind.i64.wrap w)) (IntKind.i64.wrap (lo + IntKind.i64.wrap w)) u) (mulI (IntKind.i64.wrap (lo + IntKind.i64.wrap w)) u)))) ≥ u)) (K (Value.bool false))
 (True ∧
 bcase (gate (ok1 lo lo u) (mulI lo u) != gate (ok1 (IntKind.i64.wrap (lo + IntKind.i64.wrap w)) (IntKind.i64.wrap (lo + IntKind.i64.wrap w)) u) (mulI (IntKind.i64.wrap (lo + IntKind.i64.wrap w)) u)) (bcase (er1 lo (IntKind.i64.wrap (lo + IntKind.i64.wrap w)) u == 24) (K (Value.bool (gate (ok1 lo (IntKind.i64.wrap (lo + IntKind.i64.wrap w)) u) (mulI lo u) == 0))) (K (Value.bool false)))
 (bcase (er1 lo (IntKind.i64.wrap (lo + IntKind.i64.wrap w)) u == 0) (K (Value.bool (gate (ok1 lo (IntKind.i64.wrap (lo + IntKind.i64.wrap w)) u) (mulI lo u) == gate (ok1 lo lo u) (mulI lo u)))) (K (Value.bool false)))))))))))))))))))))))))))))))))) := by kernel_rfl
end Go.Proofs.Ytobmbbmompoliaa
