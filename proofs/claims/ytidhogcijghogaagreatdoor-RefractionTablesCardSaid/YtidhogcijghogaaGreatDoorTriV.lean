/- The sine over an arc, by the program and by the reference: what they ask. -/
import Derived.Test.YtidhogcijghogaaGreatDoorTriS
namespace Go.Proofs.YtidhogcijghogaaGreatDoor
open Go Go.Abs Go.RowKit Go.Sine
set_option linter.unusedVariables false
set_option linter.unusedSimpArgs false
theorem vc_r6ends (n : Int) (K : Value → Prop) : callsX Tryz.prog (ΓE1) (noAnn) 70 [.int .i64 n] K = (
 I64 n ∧ bcase (exN n) (K (Value.tuple #[Value.int IntKind.i64 (loI n), Value.int IntKind.i64 (loI n)])) (K (Value.tuple #[Value.int IntKind.i64 (loI n), Value.int IntKind.i64 (IntKind.i64.wrap (loI n + 1))]))) := by kernel_rfl
theorem vc_r6has (a b n : Int) (K : Value → Prop) : callsX Tryz.prog ([]) (noAnn) 71 [wid a b, .int .i64 n] K = (
 bcase (decide ((IntKind.i64.wrap (n - a)).tmod 21600000 < 0)) (K (Value.bool (decide (IntKind.i64.wrap (a + IntKind.i64.wrap ((IntKind.i64.wrap (n - a)).tmod 21600000 + 21600000)) ≤ b)))) (K (Value.bool (decide (IntKind.i64.wrap (a + (IntKind.i64.wrap (n - a)).tmod 21600000) ≤ b))))) := by kernel_rfl
theorem vc_r6sine (a b : Int) (K : Value → Prop) : callsX Tryz.prog (ΓE2) (noAnn) 56 [wid a b] K = (
 Q41 a ∧
 Q41 b ∧
 (Q41 a ∧ Q41 b ∧ Q41 5400000 ∧ a ≤ b) ∧
 bcase (hasB a b 5400000) ((Q41 a ∧ Q41 b ∧ Q41 (-5400000) ∧ a ≤ b) ∧ bcase (hasB a b (-5400000)) (K (Value.agg #[Value.int IntKind.i64 (-1073741824), Value.int IntKind.i64 1073741824])) (K (Value.agg #[Value.int IntKind.i64 (if loI b < loI a then loI b else loI a), Value.int IntKind.i64 1073741824])))
 ((Q41 a ∧ Q41 b ∧ Q41 (-5400000) ∧ a ≤ b) ∧ bcase (hasB a b (-5400000)) (K (Value.agg #[Value.int IntKind.i64 (-1073741824), Value.int IntKind.i64 (if hiE b > hiE a then hiE b else hiE a)])) (K (Value.agg #[Value.int IntKind.i64 (if loI b < loI a then loI b else loI a), Value.int IntKind.i64 (if hiE b > hiE a then hiE b else hiE a)])))) := by kernel_rfl
theorem vc_r6Sin (a b : Int) (K : Value → Prop) : callsX Tryz.prog (ΓE3) (noAnn) 33 [wid a b] K = (
 (Q41 a ∧ Q41 b ∧ a ≤ b) ∧ K (Value.agg #[Value.int IntKind.i64 (encL a b), Value.int IntKind.i64 (encH a b)])) := by kernel_rfl
theorem vc_r6Cos (a b : Int) (K : Value → Prop) : callsX Tryz.prog (ΓE3) (noAnn) 32 [wid a b] K = (
 (Q41 (IntKind.i64.wrap (a + 5400000)) ∧ Q41 (IntKind.i64.wrap (b + 5400000)) ∧ IntKind.i64.wrap (a + 5400000) ≤ IntKind.i64.wrap (b + 5400000)) ∧ K (Value.agg #[Value.int IntKind.i64 (encL (IntKind.i64.wrap (a + 5400000)) (IntKind.i64.wrap (b + 5400000))), Value.int IntKind.i64 (encH (IntKind.i64.wrap (a + 5400000)) (IntKind.i64.wrap (b + 5400000)))])) := by kernel_rfl
theorem vc_trturned (n : Int) (K : Value → Prop) : callsX Tryz.prog ([]) (noAnn) 78 [.int .i64 n] K = (
 bcase (decide (n.tmod 21600000 < 0)) (K (Value.int IntKind.i64 (IntKind.i64.wrap (n.tmod 21600000 + 21600000)))) (K (Value.int IntKind.i64 (n.tmod 21600000)))) := by kernel_rfl
theorem vc_trbounds (n : Int) (K : Value → Prop) : callsX Tryz.prog (ΓE4) (noAnn) 60 [.int .i64 n] K = (
 I64 n ∧
 bcase (decide (mI n > 10800000))
 (bcase (decide (IntKind.i64.wrap (mI n - 10800000) > 5400000))
 ((0 ≤ IntKind.i64.wrap (10800000 - IntKind.i64.wrap (mI n - 10800000)) ∧ IntKind.i64.wrap (10800000 - IntKind.i64.wrap (mI n - 10800000)) ≤ 5400000) ∧
 bcase (!exB (IntKind.i64.wrap (10800000 - IntKind.i64.wrap (mI n - 10800000))))
 (bcase (decide (mI n > 10800000)) (K (Value.tuple #[Value.int IntKind.i64 (IntKind.i64.wrap (0 - IntKind.i64.wrap (sinP (IntKind.i64.wrap (10800000 - IntKind.i64.wrap (mI n - 10800000))) + 1))), Value.int IntKind.i64 (IntKind.i64.wrap (0 - sinP (IntKind.i64.wrap (10800000 - IntKind.i64.wrap (mI n - 10800000)))))]))
 (K (Value.tuple #[Value.int IntKind.i64 (sinP (IntKind.i64.wrap (10800000 - IntKind.i64.wrap (mI n - 10800000)))), Value.int IntKind.i64 (IntKind.i64.wrap (sinP (IntKind.i64.wrap (10800000 - IntKind.i64.wrap (mI n - 10800000))) + 1))])))
 (bcase (decide (mI n > 10800000)) (K (Value.tuple #[Value.int IntKind.i64 (IntKind.i64.wrap (0 - sinP (IntKind.i64.wrap (10800000 - IntKind.i64.wrap (mI n - 10800000))))), Value.int IntKind.i64 (IntKind.i64.wrap (0 - sinP (IntKind.i64.wrap (10800000 - IntKind.i64.wrap (mI n - 10800000)))))]))
 (K (Value.tuple #[Value.int IntKind.i64 (sinP (IntKind.i64.wrap (10800000 - IntKind.i64.wrap (mI n - 10800000)))), Value.int IntKind.i64 (sinP (IntKind.i64.wrap (10800000 - IntKind.i64.wrap (mI n - 10800000))))]))))
 ((0 ≤ IntKind.i64.wrap (mI n - 10800000) ∧ IntKind.i64.wrap (mI n - 10800000) ≤ 5400000) ∧
 bcase (!exB (IntKind.i64.wrap (mI n - 10800000)))
 (bcase (decide (mI n > 10800000)) (K (Value.tuple #[Value.int IntKind.i64 (IntKind.i64.wrap (0 - IntKind.i64.wrap (sinP (IntKind.i64.wrap (mI n - 10800000)) + 1))), Value.int IntKind.i64 (IntKind.i64.wrap (0 - sinP (IntKind.i64.wrap (mI n - 10800000))))]))
 (K (Value.tuple #[Value.int IntKind.i64 (sinP (IntKind.i64.wrap (mI n - 10800000))), Value.int IntKind.i64 (IntKind.i64.wrap (sinP (IntKind.i64.wrap (mI n - 10800000)) + 1))])))
 (bcase (decide (mI n > 10800000)) (K (Value.tuple #[Value.int IntKind.i64 (IntKind.i64.wrap (0 - sinP (IntKind.i64.wrap (mI n - 10800000)))), Value.int IntKind.i64 (IntKind.i64.wrap (0 - sinP (IntKind.i64.wrap (mI n - 10800000))))])) (K (Value.tuple #[Value.int IntKind.i64 (sinP (IntKind.i64.wrap (mI n - 10800000))), Value.int IntKind.i64 (sinP (IntKind.i64.wrap (mI n - 10800000)))])))))
 (bcase (decide (mI n > 5400000))
 ((0 ≤ IntKind.i64.wrap (10800000 - mI n) ∧ IntKind.i64.wrap (10800000 - mI n) ≤ 5400000) ∧
 bcase (!exB (IntKind.i64.wrap (10800000 - mI n)))
 (bcase (decide (mI n > 10800000)) (K (Value.tuple #[Value.int IntKind.i64 (IntKind.i64.wrap (0 - IntKind.i64.wrap (sinP (IntKind.i64.wrap (10800000 - mI n)) + 1))), Value.int IntKind.i64 (IntKind.i64.wrap (0 - sinP (IntKind.i64.wrap (10800000 - mI n))))]))
 (K (Value.tuple #[Value.int IntKind.i64 (sinP (IntKind.i64.wrap (10800000 - mI n))), Value.int IntKind.i64 (IntKind.i64.wrap (sinP (IntKind.i64.wrap (10800000 - mI n)) + 1))])))
 (bcase (decide (mI n > 10800000)) (K (Value.tuple #[Value.int IntKind.i64 (IntKind.i64.wrap (0 - sinP (IntKind.i64.wrap (10800000 - mI n)))), Value.int IntKind.i64 (IntKind.i64.wrap (0 - sinP (IntKind.i64.wrap (10800000 - mI n))))])) (K (Value.tuple #[Value.int IntKind.i64 (sinP (IntKind.i64.wrap (10800000 - mI n))), Value.int IntKind.i64 (sinP (IntKind.i64.wrap (10800000 - mI n)))]))))
 ((0 ≤ mI n ∧ mI n ≤ 5400000) ∧
 bcase (!exB (mI n)) (bcase (decide (mI n > 10800000)) (K (Value.tuple #[Value.int IntKind.i64 (IntKind.i64.wrap (0 - IntKind.i64.wrap (sinP (mI n) + 1))), Value.int IntKind.i64 (IntKind.i64.wrap (0 - sinP (mI n)))])) (K (Value.tuple #[Value.int IntKind.i64 (sinP (mI n)), Value.int IntKind.i64 (IntKind.i64.wrap (sinP (mI n) + 1))])))
 (bcase (decide (mI n > 10800000)) (K (Value.tuple #[Value.int IntKind.i64 (IntKind.i64.wrap (0 - sinP (mI n))), Value.int IntKind.i64 (IntKind.i64.wrap (0 - sinP (mI n)))])) (K (Value.tuple #[Value.int IntKind.i64 (sinP (mI n)), Value.int IntKind.i64 (sinP (mI n))])))))) := by kernel_rfl
theorem vc_trvalid (a b : Int) (K : Value → Prop) : callsX Tryz.prog ([]) (noAnn) 42 [wid a b] K = (
 bcase (decide (a ≥ -1099511627776)) (bcase (decide (a ≤ b)) (K (Value.bool (decide (b ≤ 1099511627776)))) (K (Value.bool false))) (K (Value.bool false))) := by kernel_rfl
theorem vc_trmeets (a b n : Int) (K : Value → Prop) : callsX Tryz.prog (ΓE4) (noAnn) 61 [wid a b, .int .i64 n] K = (
 I64 (IntKind.i64.wrap (n - a)) ∧ K (Value.bool (decide (mI (IntKind.i64.wrap (n - a)) ≤ IntKind.i64.wrap (b - a))))) := by kernel_rfl
theorem vc_trenc (a b : Int) (K : Value → Prop) : callsX Tryz.prog (ΓE5) (noAnn) 43 [wid a b] K = (
 Q41 a ∧
 Q41 b ∧
 (Q41 a ∧ Q41 b ∧ Q41 5400000 ∧ a ≤ b) ∧
 bcase (hasB a b 5400000) ((Q41 a ∧ Q41 b ∧ Q41 16200000 ∧ a ≤ b) ∧ bcase (hasB a b 16200000) (K (Value.agg #[Value.int IntKind.i64 (-1073741824), Value.int IntKind.i64 1073741824])) (K (Value.agg #[Value.int IntKind.i64 (if loI b < loI a then loI b else loI a), Value.int IntKind.i64 1073741824])))
 ((Q41 a ∧ Q41 b ∧ Q41 16200000 ∧ a ≤ b) ∧ bcase (hasB a b 16200000) (K (Value.agg #[Value.int IntKind.i64 (-1073741824), Value.int IntKind.i64 (if hiE b > hiE a then hiE b else hiE a)])) (K (Value.agg #[Value.int IntKind.i64 (if loI b < loI a then loI b else loI a), Value.int IntKind.i64 (if hiE b > hiE a then hiE b else hiE a)])))) := by kernel_rfl
theorem vc_trfurther (a b : Int) (K : Value → Prop) : callsX Tryz.prog ([]) (noAnn) 44 [wid a b] K = (
 K (Value.agg #[Value.int IntKind.i64 (IntKind.i64.wrap (a + 5400000)), Value.int IntKind.i64 (IntKind.i64.wrap (b + 5400000))])) := by kernel_rfl
theorem vc_trSin (a b : Int) (K : Value → Prop) : callsX Tryz.prog (ΓE6) (noAnn) 27 [wid a b] K = (
 True ∧ bcase (!decide (ArcV a b)) (K (Value.tuple #[Value.agg #[Value.int IntKind.i64 0, Value.int IntKind.i64 0], Value.int IntKind.i64 1])) ((Q41 a ∧ Q41 b ∧ a ≤ b) ∧ K (Value.tuple #[Value.agg #[Value.int IntKind.i64 (encL a b), Value.int IntKind.i64 (encH a b)], Value.int IntKind.i64 0]))) := by kernel_rfl
theorem vc_trCos (a b : Int) (K : Value → Prop) : callsX Tryz.prog (ΓE6) (noAnn) 26 [wid a b] K = (
 True ∧
 bcase (!decide (ArcV a b)) (K (Value.tuple #[Value.agg #[Value.int IntKind.i64 0, Value.int IntKind.i64 0], Value.int IntKind.i64 1])) ((Q41 a ∧ Q41 b) ∧ (Q41 (a + 5400000) ∧ Q41 (b + 5400000) ∧ a + 5400000 ≤ b + 5400000) ∧ K (Value.tuple #[Value.agg #[Value.int IntKind.i64 (encL (a + 5400000) (b + 5400000)), Value.int IntKind.i64 (encH (a + 5400000) (b + 5400000))], Value.int IntKind.i64 0]))) := by kernel_rfl
end Go.Proofs.YtidhogcijghogaaGreatDoor
