/- Refraction: what the law of the weather asks. -/
import Derived.Test.YtikbpleaaaeibaaRfrS
namespace Go.Proofs.Ytikbpleaaaeibaa
open Go Go.Abs Go.RowKit
set_option linter.unusedVariables false
set_option linter.unusedSimpArgs false
theorem vc_lawweather (u t p t2 p2 : Int) (K : Value → Prop) : callsX Try.prog (ΓLw) (noAnn) 4 [num u, num t, num p, num t2, num p2] K = (
 True ∧
 True ∧
 True ∧
 True ∧
 bcase (atE u u t p != 0) (K (Value.bool true))
 (bcase (atE u u t2 p != 0) (K (Value.bool true))
 (bcase (atE u u t p2 != 0) (K (Value.bool true))
 (bcase (decide (u > 5340000)) (K (Value.bool true))
 (bcase (decide (t2 < t)) (K (Value.bool true))
 (bcase (decide (p2 < p)) (K (Value.bool true))
 (True ∧
 True ∧
 True ∧
 bcase (pick (Wth t p) 0 2 != 0) (K (Value.bool false))
 (bcase (pick (Wth t2 p) 0 2 != 0) (K (Value.bool false))
 (bcase (pick (Wth t p2) 0 2 != 0) (K (Value.bool false))
 (bcase (decide (gate (Wth t p) (fD t p) < 1)) (K (Value.bool false))
 (bcase (decide (gate (Wth t2 p) (fD t2 p) < 1)) (K (Value.bool false))
 (bcase (decide (gate (Wth t p2) (fD t p2) < 1)) (K (Value.bool false))
 (bcase (decide (gate (okT u u t2 p) (atL u t2 p) ≤ gate (okT u u t p) (atL u t p)))
 (bcase (decide (gate (okT u u t2 p) (atH u t2 p) ≤ gate (okT u u t p) (atH u t p)))
 (bcase (decide (gate (okT u u t p) (atL u t p) ≤ gate (okT u u t p2) (atL u t p2)))
 (bcase (decide (gate (okT u u t p) (atH u t p) ≤ gate (okT u u t p2) (atH u t p2)))
 (bcase (decide (IntKind.i64.wrap (gate (Wth t2 p) (fN t2 p) * gate (Wth t p) (fD t p)) ≤ IntKind.i64.wrap (gate (Wth t p) (fN t p) * gate (Wth t2 p) (fD t2 p)))) (K (Value.bool (decide (IntKind.i64.wrap (gate (Wth t p) (fN t p) * gate (Wth t p2) (fD t p2)) ≤ IntKind.i64.wrap (gate (Wth t p2) (fN t p2) * gate (Wth t p) (fD t p)))))) (K (Value.bool false))) (K (Value.bool false)))
 (K (Value.bool false)))
 (K (Value.bool false)))
 (K (Value.bool false))))))))))))))) := by kernel_rfl
end Go.Proofs.Ytikbpleaaaeibaa
