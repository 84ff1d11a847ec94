/- The examples that TopTangents looks at: what they ask. -/
import Derived.Test.YtjdcicjhpegphaaGreatWbS
namespace Go.Proofs.YtjdcicjhpegphaaGreat
open Go Go.Abs Go.RowKit Go.Sine
set_option linter.unusedVariables false
set_option linter.unusedSimpArgs false
theorem vc_gcinverse (X Y : Int) (K : Value → Prop) : callsX Tryz.prog (ΓIn X Y) (noAnn) 15 [wid 0 0, wid 0 3600000] K = (
 True ∧ True ∧ (P6 [0, 0, 0, 3600000] ∧ PbZ 0) ∧ (P6 [0, 0, 0, 3600000] ∧ PbZ 0) ∧ K (Value.tuple #[Value.agg #[Value.int IntKind.i64 X, Value.int IntKind.i64 Y, Value.int IntKind.i64 3600000, Value.int IntKind.i64 3600000], Value.int IntKind.i64 0])) := by kernel_rfl
theorem vc_plbeyond (a b n : Int) (K : Value → Prop) : callsX Tryz.prog ([(52, .v sAnWrap)]) (noAnn) 160 [wid a b, num n] K = (
 True ∧ K (Value.int IntKind.i64 (wrI (IntKind.i64.wrap (n - a))))) := by kernel_rfl
theorem vc_around (u : _root_.Unit) : rcallsX Tryz.prog (ΓAd) (AAd) 159 [.one (.r 23 (.pair (.int .i64) (.int .i64)) [(0, 0)])] [.agg [.v (num 0), .v (num 0)]] = (
 True ∧
 True ∧
 BvOk ([(0, 0)].getD 0 (0, 0)).fst ([(0, 0)].getD 0 (0, 0)).fst ∧
 Value.int IntKind.i64 ([(0, 0)].getD 0 (0, 0)).fst = Value.int IntKind.i64 0 ∧
 Value.int IntKind.i64
 (IntKind.i64.wrap
 (([(0, 0)].getD 0 (0, 0)).fst + if IntKind.i64.wrap (IntKind.i64.wrap (wrI (([(0, 0)].getD 0 (0, 0)).fst - ([(0, 0)].getD 0 (0, 0)).fst) + ([(0, 0)].getD 0 (0, 0)).snd) - ([(0, 0)].getD 0 (0, 0)).fst) > 0 then IntKind.i64.wrap (IntKind.i64.wrap (wrI (([(0, 0)].getD 0 (0, 0)).fst - ([(0, 0)].getD 0 (0, 0)).fst) + ([(0, 0)].getD 0 (0, 0)).snd) - ([(0, 0)].getD 0 (0, 0)).fst) else 0)) =
 Value.int IntKind.i64 0 ∧
 True) := by kernel_rfl
theorem vc_cledge (i l : Int) (K : Value → Prop) : callsX Tryz.prog ([]) (noAnn) 170 [num i, num l] K = (
 bcase (decide (l < 0)) False (K (Value.int IntKind.i64 ((IntKind.i64.wrap (i * 10800000)).fdiv (2 ^ min l.toNat 64))))) := by kernel_rfl
end Go.Proofs.YtjdcicjhpegphaaGreat
