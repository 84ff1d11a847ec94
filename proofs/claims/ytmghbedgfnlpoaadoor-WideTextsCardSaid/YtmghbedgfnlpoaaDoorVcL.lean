/- What the laws ask that are checked without the reference. -/
import Derived.Test.YtmghbedgfnlpoaaDoorSpecW
namespace Go.Proofs.YtmghbedgfnlpoaaDoor
open Go Go.Abs Go.RowKit
set_option linter.unusedVariables false
set_option linter.unusedSimpArgs false
theorem vc_awake  (K : Value → Prop) : callsX Tryd.prog (ΓA) (noAnn) 4 [] K = (
 (I64 1099511627776 ∧ I64 (-1099511627776)) ∧ I64 (-7) ∧ I64 2 ∧ I64 (-7) ∧ I64 2 ∧ True ∧ I64 (-1) ∧ K (Value.bool (gate (okR 2097152 0) (rootI 61 (val 2097152 0) 0) == 1554944255987))) := by kernel_rfl
end Go.Proofs.YtmghbedgfnlpoaaDoor
