/- What the comparison asks. -/
import Derived.Test.YtmghbedgfnlpoaaSpecW
namespace Go.Proofs.Ytmghbedgfnlpoaa
open Go Go.Abs Go.RowKit
set_option linter.unusedVariables false
set_option linter.unusedSimpArgs false
theorem vc_or (xs : List Int) : rcallsX Try.prog ([]) (AOr xs) 46 [.one (.r 3 (.int .i64) xs)] [.one (.v (.int .i64 (firstNZ xs)))] = (
 ∃ (s : Nat),
 (xs.length = xs.length ∧ Int.ofNat 0 = 0 ∧ xs.length = xs.length ∧ (↑xs.length : Int) = (↑xs.length : Int) ∧ 0 = (↑s : Int) ∧ xs = xs ∧ True) ∧
 (s ≤ xs.length ∧ firstNZ xs = firstNZ (List.drop s xs)) ∧
 ∀ (s : Nat),
 s ≤ xs.length ∧ firstNZ xs = firstNZ (List.drop s xs) →
 bcase (decide ((↑s : Int) < (↑xs.length : Int)))
 (bcase (inB (↑s : Int) xs.length)
 (bcase ((↑s : Int).toNat.blt xs.length)
 (bcase (xs.getD (↑s : Int).toNat 0 != 0) (Value.int IntKind.i64 (xs.getD (↑s : Int).toNat 0) = Value.int IntKind.i64 (firstNZ xs) ∧ True)
 (∃ (s_1 : Nat), (xs.length = xs.length ∧ Int.ofNat 0 = 0 ∧ xs.length = xs.length ∧ (↑xs.length : Int) = (↑xs.length : Int) ∧ IntKind.i64.wrap ((↑s : Int) + 1) = (↑s_1 : Int) ∧ xs = xs ∧ True) ∧ (s_1 ≤ xs.length ∧ firstNZ xs = firstNZ (List.drop s_1 xs)) ∧ xs.length - s_1 < xs.length - s))
 False)
 False)
 (Value.int IntKind.i64 0 = Value.int IntKind.i64 (firstNZ xs) ∧ True)) := by kernel_rfl
theorem vc_wcmp (a b c d : Int) (K : Value → Prop) : callsX Try.prog (ΓC) (noAnn) 30 [wid a b, wid c d] K = (
 True ∧ bcase (!decide (WV a b)) (K (Value.tuple #[Value.int IntKind.i64 0, Value.int IntKind.i64 1])) (True ∧ bcase (!decide (WV c d)) (K (Value.tuple #[Value.int IntKind.i64 0, Value.int IntKind.i64 1])) (True ∧ True ∧ [ordI a c, ordI b d].length < 100 ∧ K (Value.tuple #[Value.int IntKind.i64 (firstNZ [ordI a c, ordI b d]), Value.int IntKind.i64 0])))) := by kernel_rfl
end Go.Proofs.Ytmghbedgfnlpoaa
