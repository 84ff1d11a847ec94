/- What the root asks. -/
import Derived.Test.YtmghbedgfnlpoaaDoorSpecW
namespace Go.Proofs.YtmghbedgfnlpoaaDoor
open Go Go.Abs Go.RowKit
set_option linter.unusedVariables false
set_option linter.unusedSimpArgs false
theorem vc_wroot (a b : Int) (K : Value → Prop) : callsX Tryd.prog (ΓR) (ARoot (val a b)) 12 [wid a b] K = (
 True ∧
 bcase (!decide (WV a b)) (K (Value.tuple #[Value.int IntKind.i64 0, Value.int IntKind.i64 1]))
 (bcase (decide (a < 0)) (K (Value.tuple #[Value.int IntKind.i64 0, Value.int IntKind.i64 2]))
 (WV a b ∧
 ∃ (s : Int × Nat),
 (0 = s.fst ∧ 1152921504606846976 = bitP s.snd ∧ a = a ∧ b = b ∧ absI (val a b) / 18446744073709551616 = absI (val a b) / 18446744073709551616 ∧ absI (val a b) % 18446744073709551616 = absI (val a b) % 18446744073709551616 ∧ decide (val a b < 0) = decide (val a b < 0) ∧ True) ∧
 (s.snd ≤ 61 ∧ 0 ≤ s.fst ∧ s.fst + 2 ^ s.snd ≤ 2 ^ 61 ∧ rootI s.snd (val a b) s.fst = rootI 61 (val a b) 0) ∧
 ∀ (s : Int × Nat),
 s.snd ≤ 61 ∧ 0 ≤ s.fst ∧ s.fst + 2 ^ s.snd ≤ 2 ^ 61 ∧ rootI s.snd (val a b) s.fst = rootI 61 (val a b) 0 →
 bcase (decide (bitP s.snd > 0))
 ((U64 (IntKind.u64.wrap (s.fst + bitP s.snd)) ∧ U64 (IntKind.u64.wrap (s.fst + bitP s.snd))) ∧
 bcase (decide (IntKind.u64.wrap (s.fst + bitP s.snd) * IntKind.u64.wrap (s.fst + bitP s.snd) / 18446744073709551616 < absI (val a b) / 18446744073709551616))
 (∃ (s_1 : Int × Nat),
 (IntKind.u64.wrap (s.fst + bitP s.snd) = s_1.fst ∧ (bitP s.snd).fdiv (2 ^ 1) = bitP s_1.snd ∧ a = a ∧ b = b ∧ absI (val a b) / 18446744073709551616 = absI (val a b) / 18446744073709551616 ∧ absI (val a b) % 18446744073709551616 = absI (val a b) % 18446744073709551616 ∧ decide (val a b < 0) = decide (val a b < 0) ∧ True) ∧
 (s_1.snd ≤ 61 ∧ 0 ≤ s_1.fst ∧ s_1.fst + 2 ^ s_1.snd ≤ 2 ^ 61 ∧ rootI s_1.snd (val a b) s_1.fst = rootI 61 (val a b) 0) ∧ s_1.snd < s.snd)
 (bcase (IntKind.u64.wrap (s.fst + bitP s.snd) * IntKind.u64.wrap (s.fst + bitP s.snd) / 18446744073709551616 == absI (val a b) / 18446744073709551616)
 (bcase (decide (IntKind.u64.wrap (s.fst + bitP s.snd) * IntKind.u64.wrap (s.fst + bitP s.snd) % 18446744073709551616 ≤ absI (val a b) % 18446744073709551616))
 (∃ (s_1 : Int × Nat),
 (IntKind.u64.wrap (s.fst + bitP s.snd) = s_1.fst ∧ (bitP s.snd).fdiv (2 ^ 1) = bitP s_1.snd ∧ a = a ∧ b = b ∧ absI (val a b) / 18446744073709551616 = absI (val a b) / 18446744073709551616 ∧ absI (val a b) % 18446744073709551616 = absI (val a b) % 18446744073709551616 ∧ decide (val a b < 0) = decide (val a b < 0) ∧ True) ∧
 (s_1.snd ≤ 61 ∧ 0 ≤ s_1.fst ∧ s_1.fst + 2 ^ s_1.snd ≤ 2 ^ 61 ∧ rootI s_1.snd (val a b) s_1.fst = rootI 61 (val a b) 0) ∧ s_1.snd < s.snd)
 (∃ (s_1 : Int × Nat),
 (s.fst = s_1.fst ∧ (bitP s.snd).fdiv (2 ^ 1) = bitP s_1.snd ∧ a = a ∧ b = b ∧ absI (val a b) / 18446744073709551616 = absI (val a b) / 18446744073709551616 ∧ absI (val a b) % 18446744073709551616 = absI (val a b) % 18446744073709551616 ∧ decide (val a b < 0) = decide (val a b < 0) ∧ True) ∧
 (s_1.snd ≤ 61 ∧ 0 ≤ s_1.fst ∧ s_1.fst + 2 ^ s_1.snd ≤ 2 ^ 61 ∧ rootI s_1.snd (val a b) s_1.fst = rootI 61 (val a b) 0) ∧ s_1.snd < s.snd))
 (∃ (s_1 : Int × Nat),
 (s.fst = s_1.fst ∧ (bitP s.snd).fdiv (2 ^ 1) = bitP s_1.snd ∧ a = a ∧ b = b ∧ absI (val a b) / 18446744073709551616 = absI (val a b) / 18446744073709551616 ∧ absI (val a b) % 18446744073709551616 = absI (val a b) % 18446744073709551616 ∧ decide (val a b < 0) = decide (val a b < 0) ∧ True) ∧
 (s_1.snd ≤ 61 ∧ 0 ≤ s_1.fst ∧ s_1.fst + 2 ^ s_1.snd ≤ 2 ^ 61 ∧ rootI s_1.snd (val a b) s_1.fst = rootI 61 (val a b) 0) ∧ s_1.snd < s.snd)))
 (K (Value.tuple #[Value.int IntKind.i64 (IntKind.i64.wrap s.fst), Value.int IntKind.i64 0]))))) := by kernel_rfl
end Go.Proofs.YtmghbedgfnlpoaaDoor
