/- What the examples of places ask. -/
import Derived.Test.YtbpeakgiajcfeaaDoorPlS
namespace Go.Proofs.YtbpeakgiajcfeaaDoor
open Go Go.Abs Go.RowKit
set_option linter.unusedVariables false
set_option linter.unusedSimpArgs false
theorem vc_awake08 (tx : Int → Int → ByteArray) (te : Int → Int → Int) (K : Value → Prop) : callsX Tryd.prog (ΓAw tx te) (noAnn) 5 [] K = (
 HuOk [0, 0, 10740000, 10740000] [0, 0, -10740000, -10740000] ∧ True ∧ bcase (te 2045500 (-7095000) == 0) (bcase ((tx 2045500 (-7095000)).toList == (ByteArray.mk #[51, 52, 45, 48, 53, 46, 53, 78, 32, 49, 49, 56, 45, 49, 53, 46, 48, 87]).toList) (VxOk [0, 0, 10740000, 10860000] ∧ K (Value.bool true)) (K (Value.bool false))) (K (Value.bool false))) := by kernel_rfl
end Go.Proofs.YtbpeakgiajcfeaaDoor
