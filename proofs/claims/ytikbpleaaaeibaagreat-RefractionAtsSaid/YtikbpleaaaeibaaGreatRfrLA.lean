/- Refraction: what the law of refractions asks. -/
import Derived.Test.YtikbpleaaaeibaaGreatRfrS
namespace Go.Proofs.YtikbpleaaaeibaaGreat
open Go Go.Abs Go.RowKit
set_option linter.unusedVariables false
set_option linter.unusedSimpArgs false
theorem vc_lawats (a b c d t p : Int) (K : Value → Prop) : callsX Tryz.prog (ΓLa20) (noAnn) 4 [wid a b, wid c d, num t, num p] K = (
 True ∧
 True ∧
 ∀ (lo hi : Int),
 Ap c d t p lo hi →
 True ∧
 ∀ (lo_1 hi_1 : Int),
 Ap c d t p lo_1 hi_1 →
 bcase (!(gate (okP c d t p lo hi) lo == gate (okP c d t p lo_1 hi_1) lo_1 && (gate (okP c d t p lo hi) hi == gate (okP c d t p lo_1 hi_1) hi_1 && true))) (K (Value.bool false))
 (bcase (apE c d t p lo hi != apE c d t p lo_1 hi_1) (K (Value.bool false))
 (True ∧
 True ∧
 bcase (!decide (ArcV a b)) (bcase (gate (okT a b t p) (atL b t p) == 0 && (gate (okT a b t p) (atH a t p) == 0 && true)) (K (Value.bool (atE a b t p == 1))) (K (Value.bool false)))
 (True ∧
 bcase (!decide (InA a b)) (bcase (gate (okT a b t p) (atL b t p) == 0 && (gate (okT a b t p) (atH a t p) == 0 && true)) (K (Value.bool (atE a b t p == 2))) (K (Value.bool false)))
 (True ∧ bcase (!decide (Wth t p)) (bcase (gate (okT a b t p) (atL b t p) == 0 && (gate (okT a b t p) (atH a t p) == 0 && true)) (K (Value.bool (atE a b t p == 2))) (K (Value.bool false))) (bcase (atE a b t p == 0) (okT a b t p ∧ K (Value.bool (gate (okT a b t p) (atL b t p) == atL b t p && (gate (okT a b t p) (atH a t p) == atH a t p && true)))) (K (Value.bool false)))))))) := by kernel_rfl
end Go.Proofs.YtikbpleaaaeibaaGreat
