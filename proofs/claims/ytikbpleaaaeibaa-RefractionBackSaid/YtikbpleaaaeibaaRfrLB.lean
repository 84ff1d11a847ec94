/- Refraction: what the law of the way back asks. -/
import Derived.Test.YtikbpleaaaeibaaRfrS
namespace Go.Proofs.Ytikbpleaaaeibaa
open Go Go.Abs Go.RowKit
set_option linter.unusedVariables false
set_option linter.unusedSimpArgs false
theorem vc_lawback (a b u t p : Int) (K : Value → Prop) : callsX Try.prog (ΓLb) (noAnn) 5 [wid a b, num u, num t, num p] K = (
 True ∧
 True ∧
 ∀ (lo hi : Int),
 Ap a b t p lo hi →
 bcase (apE a b t p lo hi == 0)
 (True ∧
 bcase (atE (gate (okP a b t p lo hi) lo) (gate (okP a b t p lo hi) hi) t p != 0) (K (Value.bool false))
 (bcase (decide (gate (okP a b t p lo hi) lo > gate (okP a b t p lo hi) hi)) (K (Value.bool false))
 (bcase (decide (IntKind.i64.wrap (gate (okP a b t p lo hi) lo - gate (okT (gate (okP a b t p lo hi) lo) (gate (okP a b t p lo hi) hi) t p) (atH (gate (okP a b t p lo hi) lo) t p)) > a)) (K (Value.bool false))
 (bcase (decide (IntKind.i64.wrap (gate (okP a b t p lo hi) hi - gate (okT (gate (okP a b t p lo hi) lo) (gate (okP a b t p lo hi) hi) t p) (atL (gate (okP a b t p lo hi) hi) t p)) < b)) (K (Value.bool false))
 (True ∧
 bcase (atE u u t p != 0) (K (Value.bool (gate (okT u u t p) (atL u t p) == 0 && (gate (okT u u t p) (atH u t p) == 0 && true))))
 (True ∧
 ∀ (lo hi : Int),
 Ap (IntKind.i64.wrap (u - gate (okT u u t p) (atH u t p))) (IntKind.i64.wrap (u - gate (okT u u t p) (atL u t p))) t p lo hi →
 bcase (apE (IntKind.i64.wrap (u - gate (okT u u t p) (atH u t p))) (IntKind.i64.wrap (u - gate (okT u u t p) (atL u t p))) t p lo hi == 2) (K (Value.bool true))
 (bcase (apE (IntKind.i64.wrap (u - gate (okT u u t p) (atH u t p))) (IntKind.i64.wrap (u - gate (okT u u t p) (atL u t p))) t p lo hi == 0)
 (bcase (decide (gate (okP (IntKind.i64.wrap (u - gate (okT u u t p) (atH u t p))) (IntKind.i64.wrap (u - gate (okT u u t p) (atL u t p))) t p lo hi) lo ≤ u))
 (bcase (decide (u ≤ gate (okP (IntKind.i64.wrap (u - gate (okT u u t p) (atH u t p))) (IntKind.i64.wrap (u - gate (okT u u t p) (atL u t p))) t p lo hi) hi))
 (K (Value.bool (decide (IntKind.i64.wrap (gate (okP (IntKind.i64.wrap (u - gate (okT u u t p) (atH u t p))) (IntKind.i64.wrap (u - gate (okT u u t p) (atL u t p))) t p lo hi) hi - gate (okP (IntKind.i64.wrap (u - gate (okT u u t p) (atH u t p))) (IntKind.i64.wrap (u - gate (okT u u t p) (atL u t p))) t p lo hi) lo) < 100)))) (K (Value.bool false)))
 (K (Value.bool false)))
 (K (Value.bool false)))))))))
 (bcase (!(gate (okP a b t p lo hi) lo == 0 && (gate (okP a b t p lo hi) hi == 0 && true))) (K (Value.bool false))
 (True ∧
 bcase (atE u u t p != 0) (K (Value.bool (gate (okT u u t p) (atL u t p) == 0 && (gate (okT u u t p) (atH u t p) == 0 && true))))
 (True ∧
 ∀ (lo hi : Int),
 Ap (IntKind.i64.wrap (u - gate (okT u u t p) (atH u t p))) (IntKind.i64.wrap (u - gate (okT u u t p) (atL u t p))) t p lo hi →
 bcase (apE (IntKind.i64.wrap (u - gate (okT u u t p) (atH u t p))) (IntKind.i64.wrap (u - gate (okT u u t p) (atL u t p))) t p lo hi == 2) (K (Value.bool true))
 (bcase (apE (IntKind.i64.wrap (u - gate (okT u u t p) (atH u t p))) (IntKind.i64.wrap (u - gate (okT u u t p) (atL u t p))) t p lo hi == 0)
 (bcase (decide (gate (okP (IntKind.i64.wrap (u - gate (okT u u t p) (atH u t p))) (IntKind.i64.wrap (u - gate (okT u u t p) (atL u t p))) t p lo hi) lo ≤ u))
 (bcase (decide (u ≤ gate (okP (IntKind.i64.wrap (u - gate (okT u u t p) (atH u t p))) (IntKind.i64.wrap (u - gate (okT u u t p) (atL u t p))) t p lo hi) hi))
 (K (Value.bool (decide (IntKind.i64.wrap (gate (okP (IntKind.i64.wrap (u - gate (okT u u t p) (atH u t p))) (IntKind.i64.wrap (u - gate (okT u u t p) (atL u t p))) t p lo hi) hi - gate (okP (IntKind.i64.wrap (u - gate (okT u u t p) (atH u t p))) (IntKind.i64.wrap (u - gate (okT u u t p) (atL u t p))) t p lo hi) lo) < 100)))) (K (Value.bool false)))
 (K (Value.bool false)))
 (K (Value.bool false))))))) := by kernel_rfl
end Go.Proofs.Ytikbpleaaaeibaa
