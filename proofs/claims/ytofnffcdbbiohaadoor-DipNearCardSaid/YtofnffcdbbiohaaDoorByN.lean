/- Distances by vertical angles: what the law of nearness asks. -/
import Derived.Test.YtofnffcdbbiohaaDoorByM
namespace Go.Proofs.YtofnffcdbbiohaaDoor
open Go Go.Abs Go.RowKit
set_option linter.unusedVariables false
set_option linter.unusedSimpArgs false
theorem vc_near (h l n w : Int) (K : Value → Prop) : callsX Tryd.prog (ΓLn) (noAnn) 3 [.int .u32 h, .int .u32 l, .int .u32 n, .int .u32 w] K = (
 True ∧
 bcase (IntKind.i64.wrap (1 + (IntKind.i64.wrap h).tmod 1000000) == 0) False
 (True ∧
 True ∧
 True ∧
 bcase (byE (IntKind.i64.wrap (1 + (IntKind.i64.wrap h).tmod 1000000)) (IntKind.i64.wrap (1000 + (IntKind.i64.wrap n).tmod 5399000)) (IntKind.i64.wrap (1000 + (IntKind.i64.wrap n).tmod 5399000)) != 0) (K (Value.bool false))
 (bcase (byE (IntKind.i64.wrap (1 + (IntKind.i64.wrap l).tmod (IntKind.i64.wrap (1 + (IntKind.i64.wrap h).tmod 1000000)))) (IntKind.i64.wrap (1000 + (IntKind.i64.wrap n).tmod 5399000)) (IntKind.i64.wrap (1000 + (IntKind.i64.wrap n).tmod 5399000)) != 0) (K (Value.bool false))
 (bcase (byE (IntKind.i64.wrap (1 + (IntKind.i64.wrap h).tmod 1000000)) (IntKind.i64.wrap (1000 + (IntKind.i64.wrap n).tmod 5399000)) (if IntKind.i64.wrap (IntKind.i64.wrap (1000 + (IntKind.i64.wrap n).tmod 5399000) + (IntKind.i64.wrap w).tmod 100000) < 5400000 then IntKind.i64.wrap (IntKind.i64.wrap (1000 + (IntKind.i64.wrap n).tmod 5399000) + (IntKind.i64.wrap w).tmod 100000) else 5400000) != 0)
 (K (Value.bool false))
 (bcase (decide (byL (IntKind.i64.wrap (1 + (IntKind.i64.wrap h).tmod 1000000)) (IntKind.i64.wrap (1000 + (IntKind.i64.wrap n).tmod 5399000)) (IntKind.i64.wrap (1000 + (IntKind.i64.wrap n).tmod 5399000)) < 0)) (K (Value.bool false))
 (bcase (decide (byL (IntKind.i64.wrap (1 + (IntKind.i64.wrap h).tmod 1000000)) (IntKind.i64.wrap (1000 + (IntKind.i64.wrap n).tmod 5399000)) (IntKind.i64.wrap (1000 + (IntKind.i64.wrap n).tmod 5399000)) > byH (IntKind.i64.wrap (1 + (IntKind.i64.wrap h).tmod 1000000)) (IntKind.i64.wrap (1000 + (IntKind.i64.wrap n).tmod 5399000)) (IntKind.i64.wrap (1000 + (IntKind.i64.wrap n).tmod 5399000))))
 (K (Value.bool false))
 (bcase (decide (byH (IntKind.i64.wrap (1 + (IntKind.i64.wrap h).tmod 1000000)) (IntKind.i64.wrap (1000 + (IntKind.i64.wrap n).tmod 5399000)) (IntKind.i64.wrap (1000 + (IntKind.i64.wrap n).tmod 5399000)) > 1073741824)) (K (Value.bool false))
 (bcase
 (decide
 (byL (IntKind.i64.wrap (1 + (IntKind.i64.wrap l).tmod (IntKind.i64.wrap (1 + (IntKind.i64.wrap h).tmod 1000000)))) (IntKind.i64.wrap (1000 + (IntKind.i64.wrap n).tmod 5399000)) (IntKind.i64.wrap (1000 + (IntKind.i64.wrap n).tmod 5399000)) >
 byL (IntKind.i64.wrap (1 + (IntKind.i64.wrap h).tmod 1000000)) (IntKind.i64.wrap (1000 + (IntKind.i64.wrap n).tmod 5399000)) (IntKind.i64.wrap (1000 + (IntKind.i64.wrap n).tmod 5399000))))
 (K (Value.bool false))
 (bcase
 (decide
 (byH (IntKind.i64.wrap (1 + (IntKind.i64.wrap l).tmod (IntKind.i64.wrap (1 + (IntKind.i64.wrap h).tmod 1000000)))) (IntKind.i64.wrap (1000 + (IntKind.i64.wrap n).tmod 5399000)) (IntKind.i64.wrap (1000 + (IntKind.i64.wrap n).tmod 5399000)) >
 byH (IntKind.i64.wrap (1 + (IntKind.i64.wrap h).tmod 1000000)) (IntKind.i64.wrap (1000 + (IntKind.i64.wrap n).tmod 5399000)) (IntKind.i64.wrap (1000 + (IntKind.i64.wrap n).tmod 5399000))))
 (K (Value.bool false))
 (True ∧
 bcase
 (!decide
 (InsV (byL (IntKind.i64.wrap (1 + (IntKind.i64.wrap h).tmod 1000000)) (IntKind.i64.wrap (1000 + (IntKind.i64.wrap n).tmod 5399000)) (IntKind.i64.wrap (1000 + (IntKind.i64.wrap n).tmod 5399000))) (byH (IntKind.i64.wrap (1 + (IntKind.i64.wrap h).tmod 1000000)) (IntKind.i64.wrap (1000 + (IntKind.i64.wrap n).tmod 5399000)) (IntKind.i64.wrap (1000 + (IntKind.i64.wrap n).tmod 5399000)))
 (byL (IntKind.i64.wrap (1 + (IntKind.i64.wrap h).tmod 1000000)) (IntKind.i64.wrap (1000 + (IntKind.i64.wrap n).tmod 5399000)) (if IntKind.i64.wrap (IntKind.i64.wrap (1000 + (IntKind.i64.wrap n).tmod 5399000) + (IntKind.i64.wrap w).tmod 100000) < 5400000 then IntKind.i64.wrap (IntKind.i64.wrap (1000 + (IntKind.i64.wrap n).tmod 5399000) + (IntKind.i64.wrap w).tmod 100000) else 5400000))
 (byH (IntKind.i64.wrap (1 + (IntKind.i64.wrap h).tmod 1000000)) (IntKind.i64.wrap (1000 + (IntKind.i64.wrap n).tmod 5399000)) (if IntKind.i64.wrap (IntKind.i64.wrap (1000 + (IntKind.i64.wrap n).tmod 5399000) + (IntKind.i64.wrap w).tmod 100000) < 5400000 then IntKind.i64.wrap (IntKind.i64.wrap (1000 + (IntKind.i64.wrap n).tmod 5399000) + (IntKind.i64.wrap w).tmod 100000) else 5400000))))
 (K (Value.bool false))
 (bcase
 (decide
 (byL (IntKind.i64.wrap (1 + (IntKind.i64.wrap h).tmod 1000000)) (IntKind.i64.wrap (1000 + (IntKind.i64.wrap n).tmod 5399000)) (if IntKind.i64.wrap (IntKind.i64.wrap (1000 + (IntKind.i64.wrap n).tmod 5399000) + (IntKind.i64.wrap w).tmod 100000) < 5400000 then IntKind.i64.wrap (IntKind.i64.wrap (1000 + (IntKind.i64.wrap n).tmod 5399000) + (IntKind.i64.wrap w).tmod 100000) else 5400000) >
 byL (IntKind.i64.wrap (1 + (IntKind.i64.wrap h).tmod 1000000)) (IntKind.i64.wrap (1000 + (IntKind.i64.wrap n).tmod 5399000)) (IntKind.i64.wrap (1000 + (IntKind.i64.wrap n).tmod 5399000))))
 (K (Value.bool false))
 (ArcV (IntKind.i64.wrap (1000 + (IntKind.i64.wrap n).tmod 5399000)) (IntKind.i64.wrap (1000 + (IntKind.i64.wrap n).tmod 5399000)) ∧
 ArcV (IntKind.i64.wrap (1000 + (IntKind.i64.wrap n).tmod 5399000)) (IntKind.i64.wrap (1000 + (IntKind.i64.wrap n).tmod 5399000)) ∧
 bcase
 (decide
 (IntKind.i64.wrap (IntKind.i64.wrap (1852 * byL (IntKind.i64.wrap (1 + (IntKind.i64.wrap h).tmod 1000000)) (IntKind.i64.wrap (1000 + (IntKind.i64.wrap n).tmod 5399000)) (IntKind.i64.wrap (1000 + (IntKind.i64.wrap n).tmod 5399000))) * encL (IntKind.i64.wrap (1000 + (IntKind.i64.wrap n).tmod 5399000)) (IntKind.i64.wrap (1000 + (IntKind.i64.wrap n).tmod 5399000))) ≤
 IntKind.i64.wrap (IntKind.i64.wrap (10 * IntKind.i64.wrap (1 + (IntKind.i64.wrap h).tmod 1000000)) * cH (IntKind.i64.wrap (1000 + (IntKind.i64.wrap n).tmod 5399000)) (IntKind.i64.wrap (1000 + (IntKind.i64.wrap n).tmod 5399000)))))
 (K
 (Value.bool
 (decide
 (IntKind.i64.wrap (IntKind.i64.wrap (1852 * byH (IntKind.i64.wrap (1 + (IntKind.i64.wrap h).tmod 1000000)) (IntKind.i64.wrap (1000 + (IntKind.i64.wrap n).tmod 5399000)) (IntKind.i64.wrap (1000 + (IntKind.i64.wrap n).tmod 5399000))) * encH (IntKind.i64.wrap (1000 + (IntKind.i64.wrap n).tmod 5399000)) (IntKind.i64.wrap (1000 + (IntKind.i64.wrap n).tmod 5399000))) ≥
 IntKind.i64.wrap (IntKind.i64.wrap (10 * IntKind.i64.wrap (1 + (IntKind.i64.wrap h).tmod 1000000)) * cL (IntKind.i64.wrap (1000 + (IntKind.i64.wrap n).tmod 5399000)) (IntKind.i64.wrap (1000 + (IntKind.i64.wrap n).tmod 5399000)))))))
 (K (Value.bool false)))))))))))))) := by kernel_rfl
theorem vc_inside (a b c d : Int) (K : Value → Prop) : callsX Tryd.prog (ΓIns) (noAnn) 6 [wid a b, wid c d] K = (
 True ∧ bcase (decide (ArcV a b)) (True ∧ bcase (decide (ArcV c d)) (bcase (decide (a ≥ c)) (K (Value.bool (decide (b ≤ d)))) (K (Value.bool false))) (K (Value.bool false))) (K (Value.bool false))) := by kernel_rfl
end Go.Proofs.YtofnffcdbbiohaaDoor
