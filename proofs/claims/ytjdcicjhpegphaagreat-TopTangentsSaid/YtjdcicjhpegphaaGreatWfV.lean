/- The examples that TopTangents looks at: what they ask. -/
import Derived.Test.YtjdcicjhpegphaaGreatWfS
namespace Go.Proofs.YtjdcicjhpegphaaGreat
open Go Go.Abs Go.RowKit Go.Sine
set_option linter.unusedVariables false
set_option linter.unusedSimpArgs false
theorem vc_plane6 (K : Value → Prop) : (callsN 20 Tryz.prog ΓRu3 AAd 100 [arc4 0 0 60000 60000] K) = (
 True ∧
 True ∧
 AB0 0 0 ∧
 True ∧
 True ∧
 En1 1073741824 60000 1073741824 ∧
 En1 1073741824 60000 1073741824 ∧
 True ∧
 True ∧
 En1 1073741824 60000 1073741824 ∧
 En1 1073741824 60000 1073741824 ∧
 True ∧
 AB0 0 0 ∧
 True ∧
 True ∧
 En0 0 60000 1073741824 ∧
 En0 0 60000 1073741824 ∧
 True ∧
 True ∧
 En0 0 60000 1073741824 ∧
 En0 0 60000 1073741824 ∧
 True ∧
 K
 (Value.tuple
 #[Value.agg
 #[Value.int IntKind.i64
 (if (if 60000 < 60000 then 60000 else 60000) < if (if 60000 < 60000 then 60000 else 60000) < if 60000 < 60000 then 60000 else 60000 then if 60000 < 60000 then 60000 else 60000 else if 60000 < 60000 then 60000 else 60000 then if 60000 < 60000 then 60000 else 60000
 else if (if 60000 < 60000 then 60000 else 60000) < if 60000 < 60000 then 60000 else 60000 then if 60000 < 60000 then 60000 else 60000 else if 60000 < 60000 then 60000 else 60000),
 Value.int IntKind.i64
 (if (if 60000 > 60000 then 60000 else 60000) > if (if 60000 > 60000 then 60000 else 60000) > if 60000 > 60000 then 60000 else 60000 then if 60000 > 60000 then 60000 else 60000 else if 60000 > 60000 then 60000 else 60000 then if 60000 > 60000 then 60000 else 60000
 else if (if 60000 > 60000 then 60000 else 60000) > if 60000 > 60000 then 60000 else 60000 then if 60000 > 60000 then 60000 else 60000 else if 60000 > 60000 then 60000 else 60000)],
 Value.agg
 #[Value.int IntKind.i64 (if (if 0 < 0 then 0 else 0) < if (if 0 < 0 then 0 else 0) < if 0 < 0 then 0 else 0 then if 0 < 0 then 0 else 0 else if 0 < 0 then 0 else 0 then if 0 < 0 then 0 else 0 else if (if 0 < 0 then 0 else 0) < if 0 < 0 then 0 else 0 then if 0 < 0 then 0 else 0 else if 0 < 0 then 0 else 0),
 Value.int IntKind.i64 (if (if 0 > 0 then 0 else 0) > if (if 0 > 0 then 0 else 0) > if 0 > 0 then 0 else 0 then if 0 > 0 then 0 else 0 else if 0 > 0 then 0 else 0 then if 0 > 0 then 0 else 0 else if (if 0 > 0 then 0 else 0) > if 0 > 0 then 0 else 0 then if 0 > 0 then 0 else 0 else if 0 > 0 then 0 else 0)],
 Value.int IntKind.i64 0])) := by kernel_rfl
theorem vc_dlon6 (K : Value → Prop) : (callsN 20 Tryz.prog ΓRu3 AAd 61 [wid 0 60000, wid 0 0] K) = (
 True ∧ True ∧ AB6 0 60000 ∧ QuP 1073741824 1073741824 1073578287 1073741824 0 ∧ QuP 1073741824 1073741824 1073578287 1073741824 0 ∧ True ∧ K (Value.tuple #[Value.agg #[Value.int IntKind.i64 (if 0 < if 0 < 0 then 0 else 0 then 0 else if 0 < 0 then 0 else 0), Value.int IntKind.i64 (if 0 > if 0 > 0 then 0 else 0 then 0 else if 0 > 0 then 0 else 0)], Value.int IntKind.i64 0])) := by kernel_rfl
theorem vc_run3 (u : Nat) : (rcallsN 20 Tryz.prog ΓRu4 AAd 23 [.one (.v (plc 0 0 0 0)), .one (.r 53 lET [(0, 0, 60000, 60000)])] [.agg [.v (num 60000), .v (num 60000), .v (num 0), .v (num 0)], .one (.v (num 0))]) = (
 True ∧
 True ∧
 Pl4 [([(0, 0, 60000, 60000)].getD 0 (0, 0, 0, 0)).fst, ([(0, 0, 60000, 60000)].getD 0 (0, 0, 0, 0)).snd.fst, ([(0, 0, 60000, 60000)].getD 0 (0, 0, 0, 0)).snd.snd.fst, ([(0, 0, 60000, 60000)].getD 0 (0, 0, 0, 0)).snd.snd.snd] ∧
 Dl4 [if IntKind.i64.wrap (0 + 60000) < 0 then IntKind.i64.wrap (0 + 60000) else 0, if IntKind.i64.wrap (0 + 60000) > 0 then IntKind.i64.wrap (0 + 60000) else 0, IntKind.i64.wrap (0 + if 0 > 0 then 0 else 0), IntKind.i64.wrap (0 + if 0 > 0 then 0 else 0)] ∧
 True ∧
 True ∧
 Dl4 [if IntKind.i64.wrap (0 + 60000) < 0 then IntKind.i64.wrap (0 + 60000) else 0, if IntKind.i64.wrap (0 + 60000) > 0 then IntKind.i64.wrap (0 + 60000) else 0, IntKind.i64.wrap (0 + if 0 < 0 then 0 else 0), IntKind.i64.wrap (0 + if 0 < 0 then 0 else 0)] ∧
 True ∧
 True ∧
 True ∧
 Value.int IntKind.i64 (IntKind.i64.wrap (0 + 60000)) = Value.int IntKind.i64 60000 ∧
 Value.int IntKind.i64 (IntKind.i64.wrap (0 + 60000)) = Value.int IntKind.i64 60000 ∧
 Value.int IntKind.i64 (sgI (IntKind.i64.wrap (IntKind.i64.wrap (0 + 0) + 0))) = Value.int IntKind.i64 0 ∧
 Value.int IntKind.i64 (IntKind.i64.wrap (IntKind.i64.wrap (sgI (IntKind.i64.wrap (IntKind.i64.wrap (0 + 0) + 0)) + IntKind.i64.wrap (IntKind.i64.wrap (0 + 0) + 0)) - IntKind.i64.wrap (IntKind.i64.wrap (0 + 0) + 0))) = Value.int IntKind.i64 0 ∧ Value.int IntKind.i64 0 = Value.int IntKind.i64 0 ∧ True) := by kernel_rfl
theorem vc_wayawake (X Y : Int) (K : Value → Prop) : callsX Tryz.prog (ΓWy X Y) (noAnn) 5 [] K = (
 P6 [0, 0, 0, 3600000] ∧ True ∧ ((Int.ofNat 0 = 0 ∧ Int.ofNat 0 = 0 ∧ Int.ofNat 0 = 0 ∧ Int.ofNat 0 = 0) ∧ [(0, 0, 60000, 60000)] = legL) ∧ True ∧ L6 [0, 0, 0, 0, 3600000, 3600000] ∧ Lv3 0 0 0 0 3 ∧ True ∧ True ∧ True ∧ K (Value.bool (decide ((↑4 : Int) > 0)))) := by kernel_rfl
end Go.Proofs.YtjdcicjhpegphaaGreat
