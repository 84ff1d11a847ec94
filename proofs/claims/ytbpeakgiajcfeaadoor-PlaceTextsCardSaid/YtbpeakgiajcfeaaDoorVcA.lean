/- Contracts of the functions of angle over numbers and arcs. -/
import Derived.Test.YtbpeakgiajcfeaaDoorSpecA
namespace Go.Proofs.YtbpeakgiajcfeaaDoor
open Go Go.Abs Go.RowKit
set_option linter.unusedVariables false
set_option linter.unusedSimpArgs false
theorem vc_fits (n : Int) (K : Value → Prop) : callsX Tryd.prog ([]) (noAnn) 39 [num n] K = (
 bcase (decide (n ≥ -1099511627776)) (K (Value.bool (decide (n ≤ 1099511627776)))) (K (Value.bool false))) := by kernel_rfl
theorem vc_valid (a b : Int) (K : Value → Prop) : callsX Tryd.prog ([(39, .v sFits)]) (noAnn) 37 [arc a b] K = (
 bcase (decide (a ≤ b)) (True ∧ bcase (decide (Fit a)) (True ∧ K (Value.bool (decide (Fit b)))) (K (Value.bool false))) (K (Value.bool false))) := by kernel_rfl
theorem vc_wrap (n : Int) (K : Value → Prop) : callsX Tryd.prog ([]) (noAnn) 59 [num n] K = (
 bcase (decide (n.tmod 21600000 < 0)) (K (Value.int IntKind.i64 (IntKind.i64.wrap (n.tmod 21600000 + 21600000)))) (K (Value.int IntKind.i64 (n.tmod 21600000)))) := by kernel_rfl
theorem vc_floor (n d : Int) (K : Value → Prop) : callsX Tryd.prog ([]) (noAnn) 38 [num n, num d] K = (
 bcase (d == 0) False (bcase (d == 0) False (bcase (decide (n.tmod d < 0)) (K (Value.int IntKind.i64 (IntKind.i64.wrap (IntKind.i64.wrap (n.tdiv d) - 1)))) (K (Value.int IntKind.i64 (IntKind.i64.wrap (n.tdiv d))))))) := by kernel_rfl
theorem vc_r5floor (n d : Int) (K : Value → Prop) : callsX Tryd.prog ([]) (noAnn) 58 [num n, num d] K = (
 bcase (d == 0) False (bcase (d == 0) False (bcase (decide (n.tmod d < 0)) (K (Value.int IntKind.i64 (IntKind.i64.wrap (IntKind.i64.wrap (n.tdiv d) - 1)))) (K (Value.int IntKind.i64 (IntKind.i64.wrap (n.tdiv d))))))) := by kernel_rfl
end Go.Proofs.YtbpeakgiajcfeaaDoor
