/- What the laws of angle ask. -/
import Derived.Test.YtbpeakgiajcfeaaDoorSpecC
namespace Go.Proofs.YtbpeakgiajcfeaaDoor
open Go Go.Abs Go.RowKit
set_option linter.unusedVariables false
set_option linter.unusedSimpArgs false
theorem vc_text (n : Int) (K : Value → Prop) : callsX Tryd.prog (Γ3) (noAnn) 30 [num n] K = (
 True ∧ bcase (!decide (Fit n)) (K (Value.tuple #[Value.string (ByteArray.mk #[]), Value.int IntKind.i64 5])) (Fit n ∧ K (Value.tuple #[Value.string (textB n), Value.int IntKind.i64 0]))) := by kernel_rfl
theorem vc_print (a b : Int) (K : Value → Prop) : callsX Tryd.prog (Γ3) (noAnn) 23 [arc a b] K = (
 True ∧
 bcase (!decide (Val a b)) (K (Value.tuple #[Value.string (ByteArray.mk #[]), Value.int IntKind.i64 1]))
 ((I64 (IntKind.i64.wrap (a + 50)) ∧ Den 100) ∧
 (I64 (IntKind.i64.wrap (b + 50)) ∧ Den 100) ∧
 True ∧
 bcase (!decide (Fit (IntKind.i64.wrap (IntKind.i64.wrap (a + 50) / 100 * 100)))) (K (Value.tuple #[Value.string (ByteArray.mk #[]), Value.int IntKind.i64 5]))
 (True ∧
 bcase (!decide (Fit (IntKind.i64.wrap (IntKind.i64.wrap (b + 50) / 100 * 100)))) (K (Value.tuple #[Value.string (ByteArray.mk #[]), Value.int IntKind.i64 5]))
 (bcase (IntKind.i64.wrap (IntKind.i64.wrap (a + 50) / 100 * 100) == IntKind.i64.wrap (IntKind.i64.wrap (b + 50) / 100 * 100)) (Fit (IntKind.i64.wrap (IntKind.i64.wrap (a + 50) / 100 * 100)) ∧ K (Value.tuple #[Value.string (textB (IntKind.i64.wrap (IntKind.i64.wrap (a + 50) / 100 * 100))), Value.int IntKind.i64 0]))
 (Fit (IntKind.i64.wrap (IntKind.i64.wrap (a + 50) / 100 * 100)) ∧
 bcase (tooLong (textB (IntKind.i64.wrap (IntKind.i64.wrap (a + 50) / 100 * 100))) (ByteArray.mk #[32, 46, 46, 32])) False
 (Fit (IntKind.i64.wrap (IntKind.i64.wrap (b + 50) / 100 * 100)) ∧
 bcase (tooLong (textB (IntKind.i64.wrap (IntKind.i64.wrap (a + 50) / 100 * 100)) ++ ByteArray.mk #[32, 46, 46, 32]) (textB (IntKind.i64.wrap (IntKind.i64.wrap (b + 50) / 100 * 100)))) False
 (K (Value.tuple #[Value.string (textB (IntKind.i64.wrap (IntKind.i64.wrap (a + 50) / 100 * 100)) ++ ByteArray.mk #[32, 46, 46, 32] ++ textB (IntKind.i64.wrap (IntKind.i64.wrap (b + 50) / 100 * 100))), Value.int IntKind.i64 0])))))))) := by kernel_rfl
end Go.Proofs.YtbpeakgiajcfeaaDoor
