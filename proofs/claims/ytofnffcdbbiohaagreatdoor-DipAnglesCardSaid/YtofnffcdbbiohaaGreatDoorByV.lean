/- Distances by vertical angles: what the program and the reference ask. -/
import Derived.Test.YtofnffcdbbiohaaGreatDoorByS
namespace Go.Proofs.YtofnffcdbbiohaaGreatDoor
open Go Go.Abs Go.RowKit
set_option linter.unusedVariables false
set_option linter.unusedSimpArgs false
theorem vc_dby (h a b : Int) (K : Value → Prop) : callsX Tryz.prog (ΓBy) (noAnn) 5 [num h, wid a b] K = (
 True ∧
 bcase (!decide (ArcV a b)) (K (Value.tuple #[Value.agg #[Value.int IntKind.i64 0, Value.int IntKind.i64 0], Value.int IntKind.i64 1]))
 (bcase (decide (h ≥ 1))
 (bcase (!decide (h ≤ 1000000)) (K (Value.tuple #[Value.agg #[Value.int IntKind.i64 0, Value.int IntKind.i64 0], Value.int IntKind.i64 2]))
 (bcase (decide (a < 1)) (K (Value.tuple #[Value.agg #[Value.int IntKind.i64 0, Value.int IntKind.i64 0], Value.int IntKind.i64 2]))
 (bcase (decide (b > 5400000)) (K (Value.tuple #[Value.agg #[Value.int IntKind.i64 0, Value.int IntKind.i64 0], Value.int IntKind.i64 2]))
 (ArcV a b ∧
 ArcV a b ∧
 QuoP (cL a b) (cH a b) (encL a b) (encH a b) (IntKind.i64.wrap (10 * h)) ∧
 bcase (pick (okF (cL a b) (cH a b) (encL a b) (encH a b) (IntKind.i64.wrap (10 * h))) 0 5 != 0) (K (Value.tuple #[Value.agg #[Value.int IntKind.i64 0, Value.int IntKind.i64 0], Value.int IntKind.i64 (pick (okF (cL a b) (cH a b) (encL a b) (encH a b) (IntKind.i64.wrap (10 * h))) 0 5)]))
 ((Q41 (gate (okF (cL a b) (cH a b) (encL a b) (encH a b) (IntKind.i64.wrap (10 * h))) (qL (cL a b) (cH a b) (encL a b) (encH a b) (IntKind.i64.wrap (10 * h)))) ∧ Int.ofNat 1852 = 1852) ∧
 (Q41 (IntKind.i64.wrap (0 - gate (okF (cL a b) (cH a b) (encL a b) (encH a b) (IntKind.i64.wrap (10 * h))) (qH (cL a b) (cH a b) (encL a b) (encH a b) (IntKind.i64.wrap (10 * h))))) ∧ Int.ofNat 1852 = 1852) ∧
 K
 (Value.tuple
 #[Value.agg
 #[Value.int IntKind.i64 (gate (okF (cL a b) (cH a b) (encL a b) (encH a b) (IntKind.i64.wrap (10 * h))) (qL (cL a b) (cH a b) (encL a b) (encH a b) (IntKind.i64.wrap (10 * h))) / 1852),
 Value.int IntKind.i64 (IntKind.i64.wrap (0 - IntKind.i64.wrap (0 - gate (okF (cL a b) (cH a b) (encL a b) (encH a b) (IntKind.i64.wrap (10 * h))) (qH (cL a b) (cH a b) (encL a b) (encH a b) (IntKind.i64.wrap (10 * h)))) / 1852))],
 Value.int IntKind.i64 0]))))))
 (K (Value.tuple #[Value.agg #[Value.int IntKind.i64 0, Value.int IntKind.i64 0], Value.int IntKind.i64 2])))) := by kernel_rfl
theorem vc_r19by (h a b : Int) (K : Value → Prop) : callsX Tryz.prog (ΓBr) (noAnn) 6 [num h, wid a b] K = (
 True ∧
 bcase (!decide (ArcV a b)) (K (Value.tuple #[Value.agg #[Value.int IntKind.i64 0, Value.int IntKind.i64 0], Value.int IntKind.i64 1]))
 (bcase (decide (h < 1)) (K (Value.tuple #[Value.agg #[Value.int IntKind.i64 0, Value.int IntKind.i64 0], Value.int IntKind.i64 2]))
 (bcase (decide (h > 1000000)) (K (Value.tuple #[Value.agg #[Value.int IntKind.i64 0, Value.int IntKind.i64 0], Value.int IntKind.i64 2]))
 (bcase (decide (a < 1)) (K (Value.tuple #[Value.agg #[Value.int IntKind.i64 0, Value.int IntKind.i64 0], Value.int IntKind.i64 2]))
 (bcase (decide (b > 5400000)) (K (Value.tuple #[Value.agg #[Value.int IntKind.i64 0, Value.int IntKind.i64 0], Value.int IntKind.i64 2]))
 (ArcV a b ∧
 ArcV a b ∧
 QuoP (cL a b) (cH a b) (encL a b) (encH a b) (IntKind.i64.wrap (10 * h)) ∧
 bcase (pick (okF (cL a b) (cH a b) (encL a b) (encH a b) (IntKind.i64.wrap (10 * h))) 0 5 != 0) (K (Value.tuple #[Value.agg #[Value.int IntKind.i64 0, Value.int IntKind.i64 0], Value.int IntKind.i64 (pick (okF (cL a b) (cH a b) (encL a b) (encH a b) (IntKind.i64.wrap (10 * h))) 0 5)]))
 ((Q41 (gate (okF (cL a b) (cH a b) (encL a b) (encH a b) (IntKind.i64.wrap (10 * h))) (qL (cL a b) (cH a b) (encL a b) (encH a b) (IntKind.i64.wrap (10 * h)))) ∧ Int.ofNat 1852 = 1852) ∧
 (Q41 (gate (okF (cL a b) (cH a b) (encL a b) (encH a b) (IntKind.i64.wrap (10 * h))) (qH (cL a b) (cH a b) (encL a b) (encH a b) (IntKind.i64.wrap (10 * h)))) ∧ Int.ofNat 1852 = 1852) ∧
 K
 (Value.tuple
 #[Value.agg #[Value.int IntKind.i64 (gate (okF (cL a b) (cH a b) (encL a b) (encH a b) (IntKind.i64.wrap (10 * h))) (qL (cL a b) (cH a b) (encL a b) (encH a b) (IntKind.i64.wrap (10 * h))) / 1852), Value.int IntKind.i64 (-(-gate (okF (cL a b) (cH a b) (encL a b) (encH a b) (IntKind.i64.wrap (10 * h))) (qH (cL a b) (cH a b) (encL a b) (encH a b) (IntKind.i64.wrap (10 * h))) / 1852))],
 Value.int IntKind.i64 0])))))))) := by kernel_rfl
theorem vc_r5valid5 (a b : Int) (K : Value → Prop) : callsX Tryz.prog ([]) (noAnn) 18 [wid a b] K = (
 bcase (decide (a ≤ b)) (bcase (decide (a ≥ -1099511627776)) (K (Value.bool (decide (b ≤ 1099511627776)))) (K (Value.bool false))) (K (Value.bool false))) := by kernel_rfl
end Go.Proofs.YtofnffcdbbiohaaGreatDoor
