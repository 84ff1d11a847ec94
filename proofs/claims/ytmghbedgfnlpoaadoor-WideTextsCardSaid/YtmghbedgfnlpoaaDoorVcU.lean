/- What the reference's functions over wide integers ask. -/
import Derived.Test.YtmghbedgfnlpoaaDoorSpecU
namespace Go.Proofs.YtmghbedgfnlpoaaDoor
open Go Go.Abs Go.RowKit
set_option linter.unusedVariables false
set_option linter.unusedSimpArgs false
theorem vc_ofWide (f : Int → List Int) (h l : Int) : rcallsX Tryd.prog (ΓOw f) (fun _ => []) 19 [oneV (wid h l)] [numR (val h l)] = (
 I64 h ∧
 I64 1152921504606846976 ∧
 0 + (f h).length ≤ (f h).length ∧
 ∀ (z : List Int),
 z = List.take (f h).length (f h) →
 0 + (f 1152921504606846976).length ≤ (f 1152921504606846976).length ∧
 ∀ (z_1 : List Int),
 z_1 = List.take (f 1152921504606846976).length (f 1152921504606846976) →
 (CanN z (decide (h < 0)) ∧ CanN z_1 (decide (1152921504606846976 < 0)) ∧ PrOk z z_1) ∧
 I64 l ∧
 0 + (dig (numV z (decide (h < 0)) * numV z_1 (decide (1152921504606846976 < 0))).natAbs).length ≤ (dig (numV z (decide (h < 0)) * numV z_1 (decide (1152921504606846976 < 0))).natAbs).length ∧
 ∀ (z_2 : List Int),
 z_2 = List.take (dig (numV z (decide (h < 0)) * numV z_1 (decide (1152921504606846976 < 0))).natAbs).length (dig (numV z (decide (h < 0)) * numV z_1 (decide (1152921504606846976 < 0))).natAbs) →
 0 + (f l).length ≤ (f l).length ∧
 ∀ (z_3 : List Int),
 z_3 = List.take (f l).length (f l) →
 (CanN z_2 (decide (numV z (decide (h < 0)) * numV z_1 (decide (1152921504606846976 < 0)) < 0)) ∧ CanN z_3 (decide (l < 0))) ∧
 (dig (numV z_2 (decide (numV z (decide (h < 0)) * numV z_1 (decide (1152921504606846976 < 0)) < 0)) + numV z_3 (decide (l < 0))).natAbs).length ≤ (dig (numV z_2 (decide (numV z (decide (h < 0)) * numV z_1 (decide (1152921504606846976 < 0)) < 0)) + numV z_3 (decide (l < 0))).natAbs).length ∧
 List.take (dig (numV z_2 (decide (numV z (decide (h < 0)) * numV z_1 (decide (1152921504606846976 < 0)) < 0)) + numV z_3 (decide (l < 0))).natAbs).length (dig (numV z_2 (decide (numV z (decide (h < 0)) * numV z_1 (decide (1152921504606846976 < 0)) < 0)) + numV z_3 (decide (l < 0))).natAbs) = dig (val h l).natAbs ∧
 Value.bool (decide (numV z_2 (decide (numV z (decide (h < 0)) * numV z_1 (decide (1152921504606846976 < 0)) < 0)) + numV z_3 (decide (l < 0)) < 0)) = Value.bool (decide (val h l < 0)) ∧ True) := by kernel_rfl
theorem vc_validR (h l : Int) (K : Value → Prop) : callsX Tryd.prog ([]) (noAnn) 6 [wid h l] K = (
 bcase (decide (h ≥ -1152921504606846976)) (bcase (decide (h < 1152921504606846976)) (bcase (decide (l ≥ 0)) (K (Value.bool (decide (l < 1152921504606846976)))) (K (Value.bool false))) (K (Value.bool false))) (K (Value.bool false))) := by kernel_rfl
end Go.Proofs.YtmghbedgfnlpoaaDoor
