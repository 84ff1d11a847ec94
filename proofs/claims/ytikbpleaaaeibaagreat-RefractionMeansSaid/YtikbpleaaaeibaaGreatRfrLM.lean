/- Refraction: what the law of means asks. -/
import Derived.Test.YtikbpleaaaeibaaGreatRfrS
namespace Go.Proofs.YtikbpleaaaeibaaGreat
open Go Go.Abs Go.RowKit
set_option linter.unusedVariables false
set_option linter.unusedSimpArgs false
theorem vc_lawmeans (a b t p : Int) (K : Value → Prop) : callsX Tryz.prog (ΓLm) (noAnn) 3 [wid a b, num t, num p] K = (
 True ∧
 True ∧
 True ∧
 True ∧
 bcase (!decide (Wth t p))
 (bcase (!(gate (Wth t p) (fN t p) == 0 && (gate (Wth t p) (fD t p) == 0 && true))) (K (Value.bool false))
 (bcase (pick (Wth t p) 0 2 != 2) (K (Value.bool false))
 (True ∧
 bcase (!decide (ArcV a b)) (bcase (gate (okA a b) (oneL b) == 0 && (gate (okA a b) (oneH a) == 0 && true)) (K (Value.bool (chkE a b == 1))) (K (Value.bool false)))
 (True ∧ bcase (!decide (InA a b)) (bcase (gate (okA a b) (oneL b) == 0 && (gate (okA a b) (oneH a) == 0 && true)) (K (Value.bool (chkE a b == 2))) (K (Value.bool false))) (bcase (chkE a b == 0) (okA a b ∧ K (Value.bool (gate (okA a b) (oneL b) == oneL b && (gate (okA a b) (oneH a) == oneH a && true)))) (K (Value.bool false)))))))
 (bcase (pick (Wth t p) 0 2 != 0) (K (Value.bool false))
 (Wth t p ∧
 bcase (!(gate (Wth t p) (fN t p) == fN t p && (gate (Wth t p) (fD t p) == fD t p && true))) (K (Value.bool false))
 (True ∧
 bcase (!decide (ArcV a b)) (bcase (gate (okA a b) (oneL b) == 0 && (gate (okA a b) (oneH a) == 0 && true)) (K (Value.bool (chkE a b == 1))) (K (Value.bool false)))
 (True ∧ bcase (!decide (InA a b)) (bcase (gate (okA a b) (oneL b) == 0 && (gate (okA a b) (oneH a) == 0 && true)) (K (Value.bool (chkE a b == 2))) (K (Value.bool false))) (bcase (chkE a b == 0) (okA a b ∧ K (Value.bool (gate (okA a b) (oneL b) == oneL b && (gate (okA a b) (oneH a) == oneH a && true)))) (K (Value.bool false)))))))) := by kernel_rfl
end Go.Proofs.YtikbpleaaaeibaaGreat
