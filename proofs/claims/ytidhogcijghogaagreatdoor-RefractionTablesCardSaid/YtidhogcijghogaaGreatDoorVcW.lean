/- What the functions of wide ask. -/
import Derived.Test.YtidhogcijghogaaGreatDoorSpecW
namespace Go.Proofs.YtidhogcijghogaaGreatDoor
open Go Go.Abs Go.RowKit
set_option linter.unusedVariables false
set_option linter.unusedSimpArgs false
theorem vc_wvalid (a b : Int) (K : Value → Prop) : callsX Tryz.prog ([]) (noAnn) 97 [wid a b] K = (
 bcase (decide (a ≥ -1152921504606846976)) (bcase (decide (a < 1152921504606846976)) (bcase (decide (b ≥ 0)) (K (Value.bool (decide (b < 1152921504606846976)))) (K (Value.bool false))) (K (Value.bool false))) (K (Value.bool false))) := by kernel_rfl
theorem vc_wfit (a b : Int) (K : Value → Prop) : callsX Tryz.prog (ΓV) (noAnn) 96 [num a, num b] K = (
 True ∧
 bcase (!decide (WV (IntKind.i64.wrap (a + b.fdiv (2 ^ 60))) (andI IntKind.i64 b 1152921504606846975))) (K (Value.tuple #[Value.agg #[Value.int IntKind.i64 0, Value.int IntKind.i64 0], Value.int IntKind.i64 5])) (K (Value.tuple #[Value.agg #[Value.int IntKind.i64 (IntKind.i64.wrap (a + b.fdiv (2 ^ 60))), Value.int IntKind.i64 (andI IntKind.i64 b 1152921504606846975)], Value.int IntKind.i64 0]))) := by kernel_rfl
theorem vc_wabs (n : Int) (K : Value → Prop) : callsX Tryz.prog ([]) (noAnn) 81 [num n] K = (
 bcase (decide (n < 0)) (K (Value.int IntKind.u64 (IntKind.u64.wrap (0 - IntKind.u64.wrap n)))) (K (Value.int IntKind.u64 (IntKind.u64.wrap n)))) := by kernel_rfl
theorem vc_wsizeof (a b : Int) (K : Value → Prop) : callsX Tryz.prog ([]) (noAnn) 98 [wid a b] K = (
 bcase (decide (a < 0))
 (K
 (Value.agg
 #[Value.int IntKind.u64 ((IntKind.u64.wrap (IntKind.i64.wrap (IntKind.i64.wrap (0 - a) + (IntKind.i64.wrap (0 - b)).fdiv (2 ^ 60)))).fdiv (2 ^ 4)),
 Value.int IntKind.u64 (orI IntKind.u64 (IntKind.u64.wrap (IntKind.u64.wrap (IntKind.i64.wrap (IntKind.i64.wrap (0 - a) + (IntKind.i64.wrap (0 - b)).fdiv (2 ^ 60))) * 2 ^ 60)) (IntKind.u64.wrap (andI IntKind.i64 (IntKind.i64.wrap (0 - b)) 1152921504606846975))), Value.bool (decide (a < 0))]))
 (K (Value.agg #[Value.int IntKind.u64 ((IntKind.u64.wrap a).fdiv (2 ^ 4)), Value.int IntKind.u64 (orI IntKind.u64 (IntKind.u64.wrap (IntKind.u64.wrap a * 2 ^ 60)) (IntKind.u64.wrap b)), Value.bool (decide (a < 0))]))) := by kernel_rfl
theorem vc_wwide (a b : Int) (n : Bool) (K : Value → Prop) : callsX Tryz.prog (ΓF) (noAnn) 82 [siz a b n] K = (
 bcase (decide (a > 72057594037927936)) (K (Value.tuple #[Value.agg #[Value.int IntKind.i64 0, Value.int IntKind.i64 0], Value.int IntKind.i64 5]))
 (bcase (a == 72057594037927936)
 (bcase (decide (b > 0)) (K (Value.tuple #[Value.agg #[Value.int IntKind.i64 0, Value.int IntKind.i64 0], Value.int IntKind.i64 5]))
 (bcase (!n) (K (Value.tuple #[Value.agg #[Value.int IntKind.i64 0, Value.int IntKind.i64 0], Value.int IntKind.i64 5]))
 (bcase n
 ((Small (IntKind.i64.wrap (0 - IntKind.i64.wrap (orI IntKind.u64 (IntKind.u64.wrap (a * 2 ^ 4)) (b.fdiv (2 ^ 60))))) ∧ Small (IntKind.i64.wrap (0 - IntKind.i64.wrap (andI IntKind.u64 b 1152921504606846975)))) ∧
 K
 (Value.tuple
 #[Value.agg
 #[Value.int IntKind.i64
 (gate (F120 (val (IntKind.i64.wrap (0 - IntKind.i64.wrap (orI IntKind.u64 (IntKind.u64.wrap (a * 2 ^ 4)) (b.fdiv (2 ^ 60))))) (IntKind.i64.wrap (0 - IntKind.i64.wrap (andI IntKind.u64 b 1152921504606846975)))))
 (hiO (val (IntKind.i64.wrap (0 - IntKind.i64.wrap (orI IntKind.u64 (IntKind.u64.wrap (a * 2 ^ 4)) (b.fdiv (2 ^ 60))))) (IntKind.i64.wrap (0 - IntKind.i64.wrap (andI IntKind.u64 b 1152921504606846975)))))),
 Value.int IntKind.i64
 (gate (F120 (val (IntKind.i64.wrap (0 - IntKind.i64.wrap (orI IntKind.u64 (IntKind.u64.wrap (a * 2 ^ 4)) (b.fdiv (2 ^ 60))))) (IntKind.i64.wrap (0 - IntKind.i64.wrap (andI IntKind.u64 b 1152921504606846975)))))
 (loO (val (IntKind.i64.wrap (0 - IntKind.i64.wrap (orI IntKind.u64 (IntKind.u64.wrap (a * 2 ^ 4)) (b.fdiv (2 ^ 60))))) (IntKind.i64.wrap (0 - IntKind.i64.wrap (andI IntKind.u64 b 1152921504606846975))))))],
 Value.int IntKind.i64 (pick (F120 (val (IntKind.i64.wrap (0 - IntKind.i64.wrap (orI IntKind.u64 (IntKind.u64.wrap (a * 2 ^ 4)) (b.fdiv (2 ^ 60))))) (IntKind.i64.wrap (0 - IntKind.i64.wrap (andI IntKind.u64 b 1152921504606846975))))) 0 5)]))
 ((Small (IntKind.i64.wrap (orI IntKind.u64 (IntKind.u64.wrap (a * 2 ^ 4)) (b.fdiv (2 ^ 60)))) ∧ Small (IntKind.i64.wrap (andI IntKind.u64 b 1152921504606846975))) ∧
 K
 (Value.tuple
 #[Value.agg
 #[Value.int IntKind.i64 (gate (F120 (val (IntKind.i64.wrap (orI IntKind.u64 (IntKind.u64.wrap (a * 2 ^ 4)) (b.fdiv (2 ^ 60)))) (IntKind.i64.wrap (andI IntKind.u64 b 1152921504606846975)))) (hiO (val (IntKind.i64.wrap (orI IntKind.u64 (IntKind.u64.wrap (a * 2 ^ 4)) (b.fdiv (2 ^ 60)))) (IntKind.i64.wrap (andI IntKind.u64 b 1152921504606846975))))),
 Value.int IntKind.i64 (gate (F120 (val (IntKind.i64.wrap (orI IntKind.u64 (IntKind.u64.wrap (a * 2 ^ 4)) (b.fdiv (2 ^ 60)))) (IntKind.i64.wrap (andI IntKind.u64 b 1152921504606846975)))) (loO (val (IntKind.i64.wrap (orI IntKind.u64 (IntKind.u64.wrap (a * 2 ^ 4)) (b.fdiv (2 ^ 60)))) (IntKind.i64.wrap (andI IntKind.u64 b 1152921504606846975)))))],
 Value.int IntKind.i64 (pick (F120 (val (IntKind.i64.wrap (orI IntKind.u64 (IntKind.u64.wrap (a * 2 ^ 4)) (b.fdiv (2 ^ 60)))) (IntKind.i64.wrap (andI IntKind.u64 b 1152921504606846975)))) 0 5)])))))
 (bcase n
 ((Small (IntKind.i64.wrap (0 - IntKind.i64.wrap (orI IntKind.u64 (IntKind.u64.wrap (a * 2 ^ 4)) (b.fdiv (2 ^ 60))))) ∧ Small (IntKind.i64.wrap (0 - IntKind.i64.wrap (andI IntKind.u64 b 1152921504606846975)))) ∧
 K
 (Value.tuple
 #[Value.agg
 #[Value.int IntKind.i64
 (gate (F120 (val (IntKind.i64.wrap (0 - IntKind.i64.wrap (orI IntKind.u64 (IntKind.u64.wrap (a * 2 ^ 4)) (b.fdiv (2 ^ 60))))) (IntKind.i64.wrap (0 - IntKind.i64.wrap (andI IntKind.u64 b 1152921504606846975)))))
 (hiO (val (IntKind.i64.wrap (0 - IntKind.i64.wrap (orI IntKind.u64 (IntKind.u64.wrap (a * 2 ^ 4)) (b.fdiv (2 ^ 60))))) (IntKind.i64.wrap (0 - IntKind.i64.wrap (andI IntKind.u64 b 1152921504606846975)))))),
 Value.int IntKind.i64
 (gate (F120 (val (IntKind.i64.wrap (0 - IntKind.i64.wrap (orI IntKind.u64 (IntKind.u64.wrap (a * 2 ^ 4)) (b.fdiv (2 ^ 60))))) (IntKind.i64.wrap (0 - IntKind.i64.wrap (andI IntKind.u64 b 1152921504606846975)))))
 (loO (val (IntKind.i64.wrap (0 - IntKind.i64.wrap (orI IntKind.u64 (IntKind.u64.wrap (a * 2 ^ 4)) (b.fdiv (2 ^ 60))))) (IntKind.i64.wrap (0 - IntKind.i64.wrap (andI IntKind.u64 b 1152921504606846975))))))],
 Value.int IntKind.i64 (pick (F120 (val (IntKind.i64.wrap (0 - IntKind.i64.wrap (orI IntKind.u64 (IntKind.u64.wrap (a * 2 ^ 4)) (b.fdiv (2 ^ 60))))) (IntKind.i64.wrap (0 - IntKind.i64.wrap (andI IntKind.u64 b 1152921504606846975))))) 0 5)]))
 ((Small (IntKind.i64.wrap (orI IntKind.u64 (IntKind.u64.wrap (a * 2 ^ 4)) (b.fdiv (2 ^ 60)))) ∧ Small (IntKind.i64.wrap (andI IntKind.u64 b 1152921504606846975))) ∧
 K
 (Value.tuple
 #[Value.agg
 #[Value.int IntKind.i64 (gate (F120 (val (IntKind.i64.wrap (orI IntKind.u64 (IntKind.u64.wrap (a * 2 ^ 4)) (b.fdiv (2 ^ 60)))) (IntKind.i64.wrap (andI IntKind.u64 b 1152921504606846975)))) (hiO (val (IntKind.i64.wrap (orI IntKind.u64 (IntKind.u64.wrap (a * 2 ^ 4)) (b.fdiv (2 ^ 60)))) (IntKind.i64.wrap (andI IntKind.u64 b 1152921504606846975))))),
 Value.int IntKind.i64 (gate (F120 (val (IntKind.i64.wrap (orI IntKind.u64 (IntKind.u64.wrap (a * 2 ^ 4)) (b.fdiv (2 ^ 60)))) (IntKind.i64.wrap (andI IntKind.u64 b 1152921504606846975)))) (loO (val (IntKind.i64.wrap (orI IntKind.u64 (IntKind.u64.wrap (a * 2 ^ 4)) (b.fdiv (2 ^ 60)))) (IntKind.i64.wrap (andI IntKind.u64 b 1152921504606846975)))))],
 Value.int IntKind.i64 (pick (F120 (val (IntKind.i64.wrap (orI IntKind.u64 (IntKind.u64.wrap (a * 2 ^ 4)) (b.fdiv (2 ^ 60)))) (IntKind.i64.wrap (andI IntKind.u64 b 1152921504606846975)))) 0 5)]))))) := by kernel_rfl
theorem vc_wproduct (a b : Int) (K : Value → Prop) : callsX Tryz.prog (ΓP) (noAnn) 63 [num a, num b] K = (
 I64 a ∧
 I64 b ∧
 (U64 (absI a) ∧ U64 (absI b)) ∧
 bcase (!decide (a < 0) == decide (b < 0))
 (bcase (a != 0)
 ((U64 (absI a * absI b / 18446744073709551616) ∧ U64 (absI a * absI b % 18446744073709551616)) ∧
 K
 (Value.tuple
 #[Value.agg
 #[Value.int IntKind.i64 (gate (F120 (sval (absI a * absI b / 18446744073709551616) (absI a * absI b % 18446744073709551616) (b != 0))) (hiO (sval (absI a * absI b / 18446744073709551616) (absI a * absI b % 18446744073709551616) (b != 0)))),
 Value.int IntKind.i64 (gate (F120 (sval (absI a * absI b / 18446744073709551616) (absI a * absI b % 18446744073709551616) (b != 0))) (loO (sval (absI a * absI b / 18446744073709551616) (absI a * absI b % 18446744073709551616) (b != 0))))],
 Value.int IntKind.i64 (pick (F120 (sval (absI a * absI b / 18446744073709551616) (absI a * absI b % 18446744073709551616) (b != 0))) 0 5)]))
 ((U64 (absI a * absI b / 18446744073709551616) ∧ U64 (absI a * absI b % 18446744073709551616)) ∧
 K
 (Value.tuple
 #[Value.agg
 #[Value.int IntKind.i64 (gate (F120 (sval (absI a * absI b / 18446744073709551616) (absI a * absI b % 18446744073709551616) false)) (hiO (sval (absI a * absI b / 18446744073709551616) (absI a * absI b % 18446744073709551616) false))),
 Value.int IntKind.i64 (gate (F120 (sval (absI a * absI b / 18446744073709551616) (absI a * absI b % 18446744073709551616) false)) (loO (sval (absI a * absI b / 18446744073709551616) (absI a * absI b % 18446744073709551616) false)))],
 Value.int IntKind.i64 (pick (F120 (sval (absI a * absI b / 18446744073709551616) (absI a * absI b % 18446744073709551616) false)) 0 5)])))
 ((U64 (absI a * absI b / 18446744073709551616) ∧ U64 (absI a * absI b % 18446744073709551616)) ∧
 K
 (Value.tuple
 #[Value.agg
 #[Value.int IntKind.i64 (gate (F120 (sval (absI a * absI b / 18446744073709551616) (absI a * absI b % 18446744073709551616) false)) (hiO (sval (absI a * absI b / 18446744073709551616) (absI a * absI b % 18446744073709551616) false))),
 Value.int IntKind.i64 (gate (F120 (sval (absI a * absI b / 18446744073709551616) (absI a * absI b % 18446744073709551616) false)) (loO (sval (absI a * absI b / 18446744073709551616) (absI a * absI b % 18446744073709551616) false)))],
 Value.int IntKind.i64 (pick (F120 (sval (absI a * absI b / 18446744073709551616) (absI a * absI b % 18446744073709551616) false)) 0 5)]))) := by kernel_rfl
theorem vc_wquotient (a b n : Int) (up : Bool) (K : Value → Prop) : callsX Tryz.prog (ΓQ) (noAnn) 83 [wid a b, num n, .bool up] K = (
 True ∧
 bcase (!decide (WV a b)) (K (Value.tuple #[Value.int IntKind.i64 0, Value.int IntKind.i64 1]))
 (bcase (n == 0) (K (Value.tuple #[Value.int IntKind.i64 0, Value.int IntKind.i64 16]))
 (WV a b ∧
 I64 n ∧
 bcase (decide (absI (val a b) / 18446744073709551616 ≥ absI n)) (K (Value.tuple #[Value.int IntKind.i64 0, Value.int IntKind.i64 5]))
 ((U64 (absI (val a b) / 18446744073709551616) ∧ U64 (absI (val a b) % 18446744073709551616) ∧ U64 (absI n) ∧ absI (val a b) / 18446744073709551616 < absI n) ∧
 bcase (decide ((absI (val a b) / 18446744073709551616 * 18446744073709551616 + absI (val a b) % 18446744073709551616) % absI n > 0))
 (bcase (!up == !decide (val a b < 0) == decide (n < 0))
 (bcase (IntKind.u64.wrap ((absI (val a b) / 18446744073709551616 * 18446744073709551616 + absI (val a b) % 18446744073709551616) / absI n + 1) == 0) (K (Value.tuple #[Value.int IntKind.i64 0, Value.int IntKind.i64 5]))
 (bcase (!decide (val a b < 0) == decide (n < 0))
 (bcase (decide (IntKind.u64.wrap ((absI (val a b) / 18446744073709551616 * 18446744073709551616 + absI (val a b) % 18446744073709551616) / absI n + 1) ≤ 9223372036854775808))
 (K (Value.tuple #[Value.int IntKind.i64 (IntKind.i64.wrap (IntKind.u64.wrap (0 - IntKind.u64.wrap ((absI (val a b) / 18446744073709551616 * 18446744073709551616 + absI (val a b) % 18446744073709551616) / absI n + 1)))), Value.int IntKind.i64 0]))
 (bcase (!!decide (val a b < 0) == decide (n < 0))
 (bcase (decide (IntKind.u64.wrap ((absI (val a b) / 18446744073709551616 * 18446744073709551616 + absI (val a b) % 18446744073709551616) / absI n + 1) < 9223372036854775808)) (K (Value.tuple #[Value.int IntKind.i64 (IntKind.i64.wrap (IntKind.u64.wrap ((absI (val a b) / 18446744073709551616 * 18446744073709551616 + absI (val a b) % 18446744073709551616) / absI n + 1))), Value.int IntKind.i64 0]))
 (K (Value.tuple #[Value.int IntKind.i64 0, Value.int IntKind.i64 5])))
 (K (Value.tuple #[Value.int IntKind.i64 0, Value.int IntKind.i64 5]))))
 (bcase (!!decide (val a b < 0) == decide (n < 0))
 (bcase (decide (IntKind.u64.wrap ((absI (val a b) / 18446744073709551616 * 18446744073709551616 + absI (val a b) % 18446744073709551616) / absI n + 1) < 9223372036854775808)) (K (Value.tuple #[Value.int IntKind.i64 (IntKind.i64.wrap (IntKind.u64.wrap ((absI (val a b) / 18446744073709551616 * 18446744073709551616 + absI (val a b) % 18446744073709551616) / absI n + 1))), Value.int IntKind.i64 0]))
 (K (Value.tuple #[Value.int IntKind.i64 0, Value.int IntKind.i64 5])))
 (K (Value.tuple #[Value.int IntKind.i64 0, Value.int IntKind.i64 5])))))
 (bcase (!decide (val a b < 0) == decide (n < 0))
 (bcase (decide ((absI (val a b) / 18446744073709551616 * 18446744073709551616 + absI (val a b) % 18446744073709551616) / absI n ≤ 9223372036854775808)) (K (Value.tuple #[Value.int IntKind.i64 (IntKind.i64.wrap (IntKind.u64.wrap (0 - (absI (val a b) / 18446744073709551616 * 18446744073709551616 + absI (val a b) % 18446744073709551616) / absI n))), Value.int IntKind.i64 0]))
 (bcase (!!decide (val a b < 0) == decide (n < 0))
 (bcase (decide ((absI (val a b) / 18446744073709551616 * 18446744073709551616 + absI (val a b) % 18446744073709551616) / absI n < 9223372036854775808)) (K (Value.tuple #[Value.int IntKind.i64 (IntKind.i64.wrap ((absI (val a b) / 18446744073709551616 * 18446744073709551616 + absI (val a b) % 18446744073709551616) / absI n)), Value.int IntKind.i64 0]))
 (K (Value.tuple #[Value.int IntKind.i64 0, Value.int IntKind.i64 5])))
 (K (Value.tuple #[Value.int IntKind.i64 0, Value.int IntKind.i64 5]))))
 (bcase (!!decide (val a b < 0) == decide (n < 0))
 (bcase (decide ((absI (val a b) / 18446744073709551616 * 18446744073709551616 + absI (val a b) % 18446744073709551616) / absI n < 9223372036854775808)) (K (Value.tuple #[Value.int IntKind.i64 (IntKind.i64.wrap ((absI (val a b) / 18446744073709551616 * 18446744073709551616 + absI (val a b) % 18446744073709551616) / absI n)), Value.int IntKind.i64 0]))
 (K (Value.tuple #[Value.int IntKind.i64 0, Value.int IntKind.i64 5])))
 (K (Value.tuple #[Value.int IntKind.i64 0, Value.int IntKind.i64 5])))))
 (bcase (!decide (val a b < 0) == decide (n < 0))
 (bcase (decide ((absI (val a b) / 18446744073709551616 * 18446744073709551616 + absI (val a b) % 18446744073709551616) / absI n ≤ 9223372036854775808)) (K (Value.tuple #[Value.int IntKind.i64 (IntKind.i64.wrap (IntKind.u64.wrap (0 - (absI (val a b) / 18446744073709551616 * 18446744073709551616 + absI (val a b) % 18446744073709551616) / absI n))), Value.int IntKind.i64 0]))
 (bcase (!!decide (val a b < 0) == decide (n < 0))
 (bcase (decide ((absI (val a b) / 18446744073709551616 * 18446744073709551616 + absI (val a b) % 18446744073709551616) / absI n < 9223372036854775808)) (K (Value.tuple #[Value.int IntKind.i64 (IntKind.i64.wrap ((absI (val a b) / 18446744073709551616 * 18446744073709551616 + absI (val a b) % 18446744073709551616) / absI n)), Value.int IntKind.i64 0]))
 (K (Value.tuple #[Value.int IntKind.i64 0, Value.int IntKind.i64 5])))
 (K (Value.tuple #[Value.int IntKind.i64 0, Value.int IntKind.i64 5]))))
 (bcase (!!decide (val a b < 0) == decide (n < 0))
 (bcase (decide ((absI (val a b) / 18446744073709551616 * 18446744073709551616 + absI (val a b) % 18446744073709551616) / absI n < 9223372036854775808)) (K (Value.tuple #[Value.int IntKind.i64 (IntKind.i64.wrap ((absI (val a b) / 18446744073709551616 * 18446744073709551616 + absI (val a b) % 18446744073709551616) / absI n)), Value.int IntKind.i64 0]))
 (K (Value.tuple #[Value.int IntKind.i64 0, Value.int IntKind.i64 5])))
 (K (Value.tuple #[Value.int IntKind.i64 0, Value.int IntKind.i64 5])))))))) := by kernel_rfl
theorem vc_wfloor (a b n : Int) (K : Value → Prop) : callsX Tryz.prog (ΓT) (noAnn) 64 [wid a b, num n] K = (
 I64 n ∧ K (Value.tuple #[Value.int IntKind.i64 (gate (okQ a b n false) (quoI (val a b) n false)), Value.int IntKind.i64 (pick (WV a b) (pick (n = 0) 16 (pick (I64 (quoI (val a b) n false)) 0 5)) 1)])) := by kernel_rfl
theorem vc_wceil (a b n : Int) (K : Value → Prop) : callsX Tryz.prog (ΓT) (noAnn) 65 [wid a b, num n] K = (
 I64 n ∧ K (Value.tuple #[Value.int IntKind.i64 (gate (okQ a b n true) (quoI (val a b) n true)), Value.int IntKind.i64 (pick (WV a b) (pick (n = 0) 16 (pick (I64 (quoI (val a b) n true)) 0 5)) 1)])) := by kernel_rfl
theorem vc_mul64 (x y : Int) (K : Value → Prop) : callsX Tryz.prog ([]) (noAnn) 80 [.int .u64 x, .int .u64 y] K = (
 K
 (Value.tuple
 #[Value.int IntKind.u64
 (IntKind.u64.wrap
 (IntKind.u64.wrap (IntKind.u64.wrap (x.fdiv (2 ^ 32) * y.fdiv (2 ^ 32)) + (IntKind.u64.wrap (IntKind.u64.wrap (x.fdiv (2 ^ 32) * andI IntKind.u64 y 4294967295) + (IntKind.u64.wrap (andI IntKind.u64 x 4294967295 * andI IntKind.u64 y 4294967295)).fdiv (2 ^ 32))).fdiv (2 ^ 32)) +
 (IntKind.u64.wrap (andI IntKind.u64 (IntKind.u64.wrap (IntKind.u64.wrap (x.fdiv (2 ^ 32) * andI IntKind.u64 y 4294967295) + (IntKind.u64.wrap (andI IntKind.u64 x 4294967295 * andI IntKind.u64 y 4294967295)).fdiv (2 ^ 32))) 4294967295 + IntKind.u64.wrap (andI IntKind.u64 x 4294967295 * y.fdiv (2 ^ 32)))).fdiv (2 ^ 32))),
 Value.int IntKind.u64 (IntKind.u64.wrap (x * y))])) := by kernel_rfl
end Go.Proofs.YtidhogcijghogaaGreatDoor
