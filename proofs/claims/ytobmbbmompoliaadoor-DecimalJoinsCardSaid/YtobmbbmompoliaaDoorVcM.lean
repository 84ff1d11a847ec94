/- What the functions of decimal numbers ask. -/
import Derived.Test.YtobmbbmompoliaaDoorSpecM
namespace Go.Proofs.YtobmbbmompoliaaDoor
open Go Go.Abs Go.RowKit
set_option linter.unusedVariables false
set_option linter.unusedSimpArgs false
theorem vc_big (n : Int) (K : Value → Prop) : callsX Tryd.prog ([]) (noAnn) 19 [num n] K = (
 bcase (decide (n < -1152921504606846976)) (K (Value.bool true)) (K (Value.bool (decide (n > 1152921504606846976))))) := by kernel_rfl
theorem vc_multiple (n u : Int) (K : Value → Prop) : callsX Tryd.prog ([]) (noAnn) 42 [num n, num u] K = (
 bcase (u == 0) False
 (bcase (u == 0) False
 (bcase (decide (n.tmod u < 0)) (bcase (decide (IntKind.i64.wrap (2 * IntKind.i64.wrap (n.tmod u + u)) ≥ u)) (K (Value.int IntKind.i64 (IntKind.i64.wrap (IntKind.i64.wrap (IntKind.i64.wrap (n.tdiv u) - 1) + 1)))) (K (Value.int IntKind.i64 (IntKind.i64.wrap (IntKind.i64.wrap (n.tdiv u) - 1)))))
 (bcase (decide (IntKind.i64.wrap (2 * n.tmod u) ≥ u)) (K (Value.int IntKind.i64 (IntKind.i64.wrap (IntKind.i64.wrap (n.tdiv u) + 1)))) (K (Value.int IntKind.i64 (IntKind.i64.wrap (n.tdiv u)))))))) := by kernel_rfl
theorem vc_rounded (lo hi u : Int) (K : Value → Prop) : callsX Tryd.prog (ΓB) (noAnn) 26 [num lo, num hi, num u] K = (
 bcase (decide (u < 1)) (K (Value.tuple #[Value.int IntKind.i64 0, Value.int IntKind.i64 0, Value.int IntKind.i64 2]))
 (bcase (decide (u > 1099511627776)) (K (Value.tuple #[Value.int IntKind.i64 0, Value.int IntKind.i64 0, Value.int IntKind.i64 2]))
 (True ∧
 bcase (decide ¬Fits lo) (K (Value.tuple #[Value.int IntKind.i64 0, Value.int IntKind.i64 0, Value.int IntKind.i64 5]))
 (True ∧ bcase (decide ¬Fits hi) (K (Value.tuple #[Value.int IntKind.i64 0, Value.int IntKind.i64 0, Value.int IntKind.i64 5])) (bcase (decide (lo > hi)) (K (Value.tuple #[Value.int IntKind.i64 0, Value.int IntKind.i64 0, Value.int IntKind.i64 1])) (MulOk lo u ∧ MulOk hi u ∧ K (Value.tuple #[Value.int IntKind.i64 (mulI lo u), Value.int IntKind.i64 (mulI hi u), Value.int IntKind.i64 0]))))))) := by kernel_rfl
theorem vc_round (lo hi u : Int) (K : Value → Prop) : callsX Tryd.prog (ΓRd) (noAnn) 13 [num lo, num hi, num u] K = (
 True ∧
 bcase (erR lo hi u == 0) (bcase (gate (okR lo hi u) (mulI lo u) != gate (okR lo hi u) (mulI hi u)) (K (Value.tuple #[Value.int IntKind.i64 0, Value.int IntKind.i64 24])) (K (Value.tuple #[Value.int IntKind.i64 (gate (okR lo hi u) (mulI lo u)), Value.int IntKind.i64 (erR lo hi u)]))) (K (Value.tuple #[Value.int IntKind.i64 (gate (okR lo hi u) (mulI lo u)), Value.int IntKind.i64 (erR lo hi u)]))) := by kernel_rfl
theorem vc_format (n k : Int) (K : Value → Prop) : callsX Tryd.prog (ΓRd) (noAnn) 11 [num n, num k] K = (
 bcase (decide (k < 0)) (K (Value.tuple #[Value.string (ByteArray.mk #[]), Value.int IntKind.i64 2])) (bcase (decide (k > 9)) (K (Value.tuple #[Value.string (ByteArray.mk #[]), Value.int IntKind.i64 2])) (True ∧ bcase (decide ¬Fits n) (K (Value.tuple #[Value.string (ByteArray.mk #[]), Value.int IntKind.i64 5])) (FOk n k ∧ K (Value.tuple #[Value.string (fB n k), Value.int IntKind.i64 0]))))) := by kernel_rfl
theorem vc_print (lo hi u k : Int) (K : Value → Prop) : callsX Tryd.prog (ΓRd) (noAnn) 14 [num lo, num hi, num u, num k] K = (
 True ∧
 bcase (erR lo hi u != 0) (K (Value.tuple #[Value.string (ByteArray.mk #[]), Value.int IntKind.i64 (erR lo hi u)]))
 (bcase (decide (k < 0)) (K (Value.tuple #[Value.string (ByteArray.mk #[]), Value.int IntKind.i64 2]))
 (bcase (decide (k > 9)) (K (Value.tuple #[Value.string (ByteArray.mk #[]), Value.int IntKind.i64 2]))
 (bcase (gate (okR lo hi u) (mulI lo u) == gate (okR lo hi u) (mulI hi u)) (FOk (gate (okR lo hi u) (mulI lo u)) k ∧ K (Value.tuple #[Value.string (fB (gate (okR lo hi u) (mulI lo u)) k), Value.int IntKind.i64 0]))
 (FOk (gate (okR lo hi u) (mulI lo u)) k ∧
 bcase (tooLong (fB (gate (okR lo hi u) (mulI lo u)) k) (ByteArray.mk #[32, 46, 46, 32])) False
 (FOk (gate (okR lo hi u) (mulI hi u)) k ∧ bcase (tooLong (fB (gate (okR lo hi u) (mulI lo u)) k ++ ByteArray.mk #[32, 46, 46, 32]) (fB (gate (okR lo hi u) (mulI hi u)) k)) False (K (Value.tuple #[Value.string (fB (gate (okR lo hi u) (mulI lo u)) k ++ ByteArray.mk #[32, 46, 46, 32] ++ fB (gate (okR lo hi u) (mulI hi u)) k), Value.int IntKind.i64 0])))))))) := by kernel_rfl
end Go.Proofs.YtobmbbmompoliaaDoor
