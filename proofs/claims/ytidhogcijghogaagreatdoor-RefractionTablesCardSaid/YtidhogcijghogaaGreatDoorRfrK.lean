/- Refraction: what the example asks. -/
import Derived.Test.YtidhogcijghogaaGreatDoorRfrS
namespace Go.Proofs.YtidhogcijghogaaGreatDoor
open Go Go.Abs Go.RowKit
set_option linter.unusedVariables false
set_option linter.unusedSimpArgs false
theorem vc_awake20  (K : Value → Prop) : callsX Tryz.prog (ΓLk) (noAnn) 4 [] K = (
 True ∧ True ∧ K (Value.bool (gate (Wth 100 10100) (fN 100 10100) == 1 && (gate (Wth 100 10100) (fD 100 10100) == 1 && true)))) := by kernel_rfl
end Go.Proofs.YtidhogcijghogaaGreatDoor
