/- Distances by vertical angles: what the laws ask. -/
import Derived.Test.YtofnffcdbbiohaaGreatDoorByS
namespace Go.Proofs.YtofnffcdbbiohaaGreatDoor
open Go Go.Abs Go.RowKit
set_option linter.unusedVariables false
set_option linter.unusedSimpArgs false
theorem vc_angles (h a b : Int) (K : Value → Prop) : callsX Tryz.prog (ΓLa) (noAnn) 3 [num h, wid a b] K = (
 True ∧ True ∧ True ∧ bcase (byL h a b == byL h a b && (byH h a b == byH h a b && true)) (K (Value.bool (byE h a b == byE h a b))) (K (Value.bool false))) := by kernel_rfl
end Go.Proofs.YtofnffcdbbiohaaGreatDoor
