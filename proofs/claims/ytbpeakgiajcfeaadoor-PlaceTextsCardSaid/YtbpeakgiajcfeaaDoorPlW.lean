/- What the hull of two meridians asks. -/
import Derived.Test.YtbpeakgiajcfeaaDoorPlS
namespace Go.Proofs.YtbpeakgiajcfeaaDoor
open Go Go.Abs Go.RowKit
set_option linter.unusedVariables false
set_option linter.unusedSimpArgs false
theorem vc_around (u : Unit) : rcallsX Tryd.prog (ΓAr) (AAw) 27 [.one (.r 33 (.pair (.int .i64) (.int .i64)) [(10740000, 10740000), (-10740000, -10740000)])] [.agg [.v (num 10740000), .v (num 10860000)]] = (
 True ∧
 True ∧
 ByOk ([(10740000, 10740000), (-10740000, -10740000)].getD 0 (0, 0)).fst ([(10740000, 10740000), (-10740000, -10740000)].getD 0 (0, 0)).fst ∧
 ByOk ([(10740000, 10740000), (-10740000, -10740000)].getD 0 (0, 0)).fst ([(10740000, 10740000), (-10740000, -10740000)].getD 1 (0, 0)).fst ∧
 True ∧
 ByOk ([(10740000, 10740000), (-10740000, -10740000)].getD 1 (0, 0)).fst ([(10740000, 10740000), (-10740000, -10740000)].getD 0 (0, 0)).fst ∧
 ByOk ([(10740000, 10740000), (-10740000, -10740000)].getD 1 (0, 0)).fst ([(10740000, 10740000), (-10740000, -10740000)].getD 1 (0, 0)).fst ∧
 Value.int IntKind.i64 ([(10740000, 10740000), (-10740000, -10740000)].getD 0 (0, 0)).fst = Value.int IntKind.i64 10740000 ∧
 Value.int IntKind.i64
 (IntKind.i64.wrap
 (([(10740000, 10740000), (-10740000, -10740000)].getD 0 (0, 0)).fst +
 if
 IntKind.i64.wrap (IntKind.i64.wrap ((([(10740000, 10740000), (-10740000, -10740000)].getD 1 (0, 0)).fst - ([(10740000, 10740000), (-10740000, -10740000)].getD 0 (0, 0)).fst) % 21600000 + ([(10740000, 10740000), (-10740000, -10740000)].getD 1 (0, 0)).snd) - ([(10740000, 10740000), (-10740000, -10740000)].getD 1 (0, 0)).fst) >
 if IntKind.i64.wrap (IntKind.i64.wrap ((([(10740000, 10740000), (-10740000, -10740000)].getD 0 (0, 0)).fst - ([(10740000, 10740000), (-10740000, -10740000)].getD 0 (0, 0)).fst) % 21600000 + ([(10740000, 10740000), (-10740000, -10740000)].getD 0 (0, 0)).snd) - ([(10740000, 10740000), (-10740000, -10740000)].getD 0 (0, 0)).fst) > 0 then
 IntKind.i64.wrap (IntKind.i64.wrap ((([(10740000, 10740000), (-10740000, -10740000)].getD 0 (0, 0)).fst - ([(10740000, 10740000), (-10740000, -10740000)].getD 0 (0, 0)).fst) % 21600000 + ([(10740000, 10740000), (-10740000, -10740000)].getD 0 (0, 0)).snd) - ([(10740000, 10740000), (-10740000, -10740000)].getD 0 (0, 0)).fst)
 else 0 then
 IntKind.i64.wrap (IntKind.i64.wrap ((([(10740000, 10740000), (-10740000, -10740000)].getD 1 (0, 0)).fst - ([(10740000, 10740000), (-10740000, -10740000)].getD 0 (0, 0)).fst) % 21600000 + ([(10740000, 10740000), (-10740000, -10740000)].getD 1 (0, 0)).snd) - ([(10740000, 10740000), (-10740000, -10740000)].getD 1 (0, 0)).fst)
 else
 if IntKind.i64.wrap (IntKind.i64.wrap ((([(10740000, 10740000), (-10740000, -10740000)].getD 0 (0, 0)).fst - ([(10740000, 10740000), (-10740000, -10740000)].getD 0 (0, 0)).fst) % 21600000 + ([(10740000, 10740000), (-10740000, -10740000)].getD 0 (0, 0)).snd) - ([(10740000, 10740000), (-10740000, -10740000)].getD 0 (0, 0)).fst) > 0 then
 IntKind.i64.wrap (IntKind.i64.wrap ((([(10740000, 10740000), (-10740000, -10740000)].getD 0 (0, 0)).fst - ([(10740000, 10740000), (-10740000, -10740000)].getD 0 (0, 0)).fst) % 21600000 + ([(10740000, 10740000), (-10740000, -10740000)].getD 0 (0, 0)).snd) - ([(10740000, 10740000), (-10740000, -10740000)].getD 0 (0, 0)).fst)
 else 0)) =
 Value.int IntKind.i64 10860000 ∧
 True) := by kernel_rfl
theorem vc_hullX (lon : Int → Int → Bool) (K : Value → Prop) : callsX Tryd.prog (ΓHu lon) (noAnn) 16 [.agg ⟨[num 0, num 0, num 10740000, num 10740000]⟩, .agg ⟨[num 0, num 0, num (-10740000), num (-10740000)]⟩] K = (
 True ∧
 bcase (!lon 10740000 10740000) (K (Value.tuple #[Value.agg #[Value.int IntKind.i64 0, Value.int IntKind.i64 0, Value.int IntKind.i64 0, Value.int IntKind.i64 0], Value.int IntKind.i64 1]))
 (True ∧
 bcase (!lon (-10740000) (-10740000)) (K (Value.tuple #[Value.agg #[Value.int IntKind.i64 0, Value.int IntKind.i64 0, Value.int IntKind.i64 0, Value.int IntKind.i64 0], Value.int IntKind.i64 1]))
 ([(10740000, 10740000), (-10740000, -10740000)] = hullX ∧ K (Value.tuple #[Value.agg #[Value.int IntKind.i64 (if 0 < 0 then 0 else 0), Value.int IntKind.i64 (if 0 > 0 then 0 else 0), Value.int IntKind.i64 10740000, Value.int IntKind.i64 10860000], Value.int IntKind.i64 0])))) := by kernel_rfl
theorem vc_validX (lon : Int → Int → Bool) (K : Value → Prop) : callsX Tryd.prog (ΓHu lon) (noAnn) 17 [.agg ⟨[num 0, num 0, num 10740000, num 10860000]⟩] K = (
 True ∧ K (Value.bool (lon 10740000 10860000))) := by kernel_rfl
end Go.Proofs.YtbpeakgiajcfeaaDoor
