/- What the functions of decimal numbers ask. -/
import Derived.Test.YtobmbbmompoliaaSpecM
namespace Go.Proofs.Ytobmbbmompoliaa
open Go Go.Abs Go.RowKit
set_option linter.unusedVariables false
set_option linter.unusedSimpArgs false
theorem vc_big (n : Int) (K : Value → Prop) : callsX Try.prog ([]) (noAnn) 21 [num n] K = (
 bcase (decide (n < -1152921504606846976)) (K (Value.bool true)) (K (Value.bool (decide (n > 1152921504606846976))))) := by kernel_rfl
theorem vc_fits (n : Int) (K : Value → Prop) : callsX Try.prog ([]) (noAnn) 9 [num n] K = (
 bcase (decide (n ≥ -1152921504606846976)) (K (Value.bool (decide (n ≤ 1152921504606846976)))) (K (Value.bool false))) := by kernel_rfl
theorem vc_multiple (n u : Int) (K : Value → Prop) : callsX Try.prog ([]) (noAnn) 47 [num n, num u] K = (
 bcase (u == 0) False
 (bcase (u == 0) False
 (bcase (decide (n.tmod u < 0)) (bcase (decide (IntKind.i64.wrap (2 * IntKind.i64.wrap (n.tmod u + u)) ≥ u)) (K (Value.int IntKind.i64 (IntKind.i64.wrap (IntKind.i64.wrap (IntKind.i64.wrap (n.tdiv u) - 1) + 1)))) (K (Value.int IntKind.i64 (IntKind.i64.wrap (IntKind.i64.wrap (n.tdiv u) - 1)))))
 (bcase (decide (IntKind.i64.wrap (2 * n.tmod u) ≥ u)) (K (Value.int IntKind.i64 (IntKind.i64.wrap (IntKind.i64.wrap (n.tdiv u) + 1)))) (K (Value.int IntKind.i64 (IntKind.i64.wrap (n.tdiv u)))))))) := by kernel_rfl
theorem vc_r1multiple (n u : Int) (K : Value → Prop) : callsX Try.prog ([]) (noAnn) 31 [num n, num u] K = (
 bcase (u == 0) False
 (bcase (u == 0) False
 (bcase (decide (n.tmod u < 0)) (bcase (decide (IntKind.i64.wrap (2 * IntKind.i64.wrap (n.tmod u + u)) ≥ u)) (K (Value.int IntKind.i64 (IntKind.i64.wrap (IntKind.i64.wrap (IntKind.i64.wrap (n.tdiv u) - 1) + 1)))) (K (Value.int IntKind.i64 (IntKind.i64.wrap (IntKind.i64.wrap (n.tdiv u) - 1)))))
 (bcase (decide (IntKind.i64.wrap (2 * n.tmod u) ≥ u)) (K (Value.int IntKind.i64 (IntKind.i64.wrap (IntKind.i64.wrap (n.tdiv u) + 1)))) (K (Value.int IntKind.i64 (IntKind.i64.wrap (n.tdiv u)))))))) := by kernel_rfl
theorem vc_rounded (lo hi u : Int) (K : Value → Prop) : callsX Try.prog (ΓB) (noAnn) 30 [num lo, num hi, num u] K = (
 bcase (decide (u < 1)) (K (Value.tuple #[Value.int IntKind.i64 0, Value.int IntKind.i64 0, Value.int IntKind.i64 2]))
 (bcase (decide (u > 1099511627776)) (K (Value.tuple #[Value.int IntKind.i64 0, Value.int IntKind.i64 0, Value.int IntKind.i64 2]))
 (True ∧
 bcase (decide ¬Fits lo) (K (Value.tuple #[Value.int IntKind.i64 0, Value.int IntKind.i64 0, Value.int IntKind.i64 5]))
 (True ∧ bcase (decide ¬Fits hi) (K (Value.tuple #[Value.int IntKind.i64 0, Value.int IntKind.i64 0, Value.int IntKind.i64 5])) (bcase (decide (lo > hi)) (K (Value.tuple #[Value.int IntKind.i64 0, Value.int IntKind.i64 0, Value.int IntKind.i64 1])) (MulOk lo u ∧ MulOk hi u ∧ K (Value.tuple #[Value.int IntKind.i64 (mulI lo u), Value.int IntKind.i64 (mulI hi u), Value.int IntKind.i64 0]))))))) := by kernel_rfl
theorem vc_round (lo hi u : Int) (K : Value → Prop) : callsX Try.prog (ΓRd) (noAnn) 12 [num lo, num hi, num u] K = (
 True ∧
 bcase (erR lo hi u == 0) (bcase (gate (okR lo hi u) (mulI lo u) != gate (okR lo hi u) (mulI hi u)) (K (Value.tuple #[Value.int IntKind.i64 0, Value.int IntKind.i64 24])) (K (Value.tuple #[Value.int IntKind.i64 (gate (okR lo hi u) (mulI lo u)), Value.int IntKind.i64 (erR lo hi u)]))) (K (Value.tuple #[Value.int IntKind.i64 (gate (okR lo hi u) (mulI lo u)), Value.int IntKind.i64 (erR lo hi u)]))) := by kernel_rfl
theorem vc_r1round (lo hi u : Int) (K : Value → Prop) : callsX Try.prog (ΓRr) (noAnn) 14 [num lo, num hi, num u] K = (
 bcase (decide (u < 1)) (K (Value.tuple #[Value.int IntKind.i64 0, Value.int IntKind.i64 2]))
 (bcase (decide (u > 1099511627776)) (K (Value.tuple #[Value.int IntKind.i64 0, Value.int IntKind.i64 2]))
 (True ∧
 bcase (!decide (Fits lo)) (K (Value.tuple #[Value.int IntKind.i64 0, Value.int IntKind.i64 5]))
 (True ∧
 bcase (!decide (Fits hi)) (K (Value.tuple #[Value.int IntKind.i64 0, Value.int IntKind.i64 5]))
 (bcase (decide (lo > hi)) (K (Value.tuple #[Value.int IntKind.i64 0, Value.int IntKind.i64 1])) (MulOk lo u ∧ MulOk hi u ∧ bcase (mulI lo u != mulI hi u) (K (Value.tuple #[Value.int IntKind.i64 0, Value.int IntKind.i64 24])) (MulOk lo u ∧ K (Value.tuple #[Value.int IntKind.i64 (mulI lo u), Value.int IntKind.i64 0])))))))) := by kernel_rfl
theorem vc_fmt (n k : Int) (K : Value → Prop) : callsX Try.prog ([]) (AFmt n.natAbs k.toNat) 22 [num n, num k] K = (
 ∃ (s : Nat × Nat × List UInt8),
 (n = n ∧ k = k ∧ (bytR s.snd.snd).length = 0 ∧ (if IntKind.i64.wrap (0 - n) > n then IntKind.i64.wrap (0 - n) else n) = (↑s.fst : Int) ∧ 0 = (↑s.snd.fst : Int) ∧ bytR s.snd.snd = [] ∧ True) ∧
 (s.fst ≤ n.natAbs ∧ s.snd.fst ≤ s.snd.snd.length ∧ (0 < s.snd.fst → s.snd.snd ≠ []) ∧ remR s.fst s.snd.fst k.toNat ++ s.snd.snd = remR n.natAbs 0 k.toNat) ∧
 ∀ (s : Nat × Nat × List UInt8),
 s.fst ≤ n.natAbs ∧ s.snd.fst ≤ s.snd.snd.length ∧ (0 < s.snd.fst → s.snd.snd ≠ []) ∧ remR s.fst s.snd.fst k.toNat ++ s.snd.snd = remR n.natAbs 0 k.toNat →
 bcase (decide ((↑s.fst : Int) > 0))
 (bcase ((↑s.snd.fst : Int) == k)
 (bcase (decide (k > 0))
 ((bytR s.snd.snd).length = (bytR s.snd.snd).length ∧
 bcase (capOk ((bytR s.snd.snd).length + 1) 1)
 ((bytR s.snd.snd).length + 1 = (bytR s.snd.snd ++ [46]).length ∧
 bcase (capOk ((bytR s.snd.snd ++ [46]).length + 1) 1)
 (∃ (s_1 : Nat × Nat × List UInt8),
 (n = n ∧ k = k ∧ (bytR s.snd.snd ++ [46]).length + 1 = (bytR s_1.snd.snd).length ∧ (bytR s.snd.snd ++ [46]).length + 1 ≠ 0 ∧ IntKind.i64.wrap ((↑s.fst : Int).tdiv 10) = (↑s_1.fst : Int) ∧ IntKind.i64.wrap ((↑s.snd.fst : Int) + 1) = (↑s_1.snd.fst : Int) ∧ bytR s.snd.snd ++ [46] ++ [IntKind.u8.wrap (IntKind.i64.wrap (48 + (↑s.fst : Int).tmod 10))] = bytR s_1.snd.snd ∧ True) ∧
 (s_1.fst ≤ n.natAbs ∧ s_1.snd.fst ≤ s_1.snd.snd.length ∧ (0 < s_1.snd.fst → s_1.snd.snd ≠ []) ∧ remR s_1.fst s_1.snd.fst k.toNat ++ s_1.snd.snd = remR n.natAbs 0 k.toNat) ∧ s_1.fst + (k.toNat + 1 - s_1.snd.fst) < s.fst + (k.toNat + 1 - s.snd.fst))
 False)
 False)
 ((bytR s.snd.snd).length = (bytR s.snd.snd).length ∧
 bcase (capOk ((bytR s.snd.snd).length + 1) 1)
 (∃ (s_1 : Nat × Nat × List UInt8),
 (n = n ∧ k = k ∧ (bytR s.snd.snd).length + 1 = (bytR s_1.snd.snd).length ∧ (bytR s.snd.snd).length + 1 ≠ 0 ∧ IntKind.i64.wrap ((↑s.fst : Int).tdiv 10) = (↑s_1.fst : Int) ∧ IntKind.i64.wrap ((↑s.snd.fst : Int) + 1) = (↑s_1.snd.fst : Int) ∧ bytR s.snd.snd ++ [IntKind.u8.wrap (IntKind.i64.wrap (48 + (↑s.fst : Int).tmod 10))] = bytR s_1.snd.snd ∧ True) ∧
 (s_1.fst ≤ n.natAbs ∧ s_1.snd.fst ≤ s_1.snd.snd.length ∧ (0 < s_1.snd.fst → s_1.snd.snd ≠ []) ∧ remR s_1.fst s_1.snd.fst k.toNat ++ s_1.snd.snd = remR n.natAbs 0 k.toNat) ∧ s_1.fst + (k.toNat + 1 - s_1.snd.fst) < s.fst + (k.toNat + 1 - s.snd.fst))
 False))
 ((bytR s.snd.snd).length = (bytR s.snd.snd).length ∧
 bcase (capOk ((bytR s.snd.snd).length + 1) 1)
 (∃ (s_1 : Nat × Nat × List UInt8),
 (n = n ∧ k = k ∧ (bytR s.snd.snd).length + 1 = (bytR s_1.snd.snd).length ∧ (bytR s.snd.snd).length + 1 ≠ 0 ∧ IntKind.i64.wrap ((↑s.fst : Int).tdiv 10) = (↑s_1.fst : Int) ∧ IntKind.i64.wrap ((↑s.snd.fst : Int) + 1) = (↑s_1.snd.fst : Int) ∧ bytR s.snd.snd ++ [IntKind.u8.wrap (IntKind.i64.wrap (48 + (↑s.fst : Int).tmod 10))] = bytR s_1.snd.snd ∧ True) ∧
 (s_1.fst ≤ n.natAbs ∧ s_1.snd.fst ≤ s_1.snd.snd.length ∧ (0 < s_1.snd.fst → s_1.snd.snd ≠ []) ∧ remR s_1.fst s_1.snd.fst k.toNat ++ s_1.snd.snd = remR n.natAbs 0 k.toNat) ∧ s_1.fst + (k.toNat + 1 - s_1.snd.fst) < s.fst + (k.toNat + 1 - s.snd.fst))
 False))
 (bcase (decide ((↑s.snd.fst : Int) ≤ k))
 (bcase ((↑s.snd.fst : Int) == k)
 (bcase (decide (k > 0))
 ((bytR s.snd.snd).length = (bytR s.snd.snd).length ∧
 bcase (capOk ((bytR s.snd.snd).length + 1) 1)
 ((bytR s.snd.snd).length + 1 = (bytR s.snd.snd ++ [46]).length ∧
 bcase (capOk ((bytR s.snd.snd ++ [46]).length + 1) 1)
 (∃ (s_1 : Nat × Nat × List UInt8),
 (n = n ∧ k = k ∧ (bytR s.snd.snd ++ [46]).length + 1 = (bytR s_1.snd.snd).length ∧ (bytR s.snd.snd ++ [46]).length + 1 ≠ 0 ∧ IntKind.i64.wrap ((↑s.fst : Int).tdiv 10) = (↑s_1.fst : Int) ∧ IntKind.i64.wrap ((↑s.snd.fst : Int) + 1) = (↑s_1.snd.fst : Int) ∧ bytR s.snd.snd ++ [46] ++ [IntKind.u8.wrap (IntKind.i64.wrap (48 + (↑s.fst : Int).tmod 10))] = bytR s_1.snd.snd ∧ True) ∧
 (s_1.fst ≤ n.natAbs ∧ s_1.snd.fst ≤ s_1.snd.snd.length ∧ (0 < s_1.snd.fst → s_1.snd.snd ≠ []) ∧ remR s_1.fst s_1.snd.fst k.toNat ++ s_1.snd.snd = remR n.natAbs 0 k.toNat) ∧ s_1.fst + (k.toNat + 1 - s_1.snd.fst) < s.fst + (k.toNat + 1 - s.snd.fst))
 False)
 False)
 ((bytR s.snd.snd).length = (bytR s.snd.snd).length ∧
 bcase (capOk ((bytR s.snd.snd).length + 1) 1)
 (∃ (s_1 : Nat × Nat × List UInt8),
 (n = n ∧ k = k ∧ (bytR s.snd.snd).length + 1 = (bytR s_1.snd.snd).length ∧ (bytR s.snd.snd).length + 1 ≠ 0 ∧ IntKind.i64.wrap ((↑s.fst : Int).tdiv 10) = (↑s_1.fst : Int) ∧ IntKind.i64.wrap ((↑s.snd.fst : Int) + 1) = (↑s_1.snd.fst : Int) ∧ bytR s.snd.snd ++ [IntKind.u8.wrap (IntKind.i64.wrap (48 + (↑s.fst : Int).tmod 10))] = bytR s_1.snd.snd ∧ True) ∧
 (s_1.fst ≤ n.natAbs ∧ s_1.snd.fst ≤ s_1.snd.snd.length ∧ (0 < s_1.snd.fst → s_1.snd.snd ≠ []) ∧ remR s_1.fst s_1.snd.fst k.toNat ++ s_1.snd.snd = remR n.natAbs 0 k.toNat) ∧ s_1.fst + (k.toNat + 1 - s_1.snd.fst) < s.fst + (k.toNat + 1 - s.snd.fst))
 False))
 ((bytR s.snd.snd).length = (bytR s.snd.snd).length ∧
 bcase (capOk ((bytR s.snd.snd).length + 1) 1)
 (∃ (s_1 : Nat × Nat × List UInt8),
 (n = n ∧ k = k ∧ (bytR s.snd.snd).length + 1 = (bytR s_1.snd.snd).length ∧ (bytR s.snd.snd).length + 1 ≠ 0 ∧ IntKind.i64.wrap ((↑s.fst : Int).tdiv 10) = (↑s_1.fst : Int) ∧ IntKind.i64.wrap ((↑s.snd.fst : Int) + 1) = (↑s_1.snd.fst : Int) ∧ bytR s.snd.snd ++ [IntKind.u8.wrap (IntKind.i64.wrap (48 + (↑s.fst : Int).tmod 10))] = bytR s_1.snd.snd ∧ True) ∧
 (s_1.fst ≤ n.natAbs ∧ s_1.snd.fst ≤ s_1.snd.snd.length ∧ (0 < s_1.snd.fst → s_1.snd.snd ≠ []) ∧ remR s_1.fst s_1.snd.fst k.toNat ++ s_1.snd.snd = remR n.natAbs 0 k.toNat) ∧ s_1.fst + (k.toNat + 1 - s_1.snd.fst) < s.fst + (k.toNat + 1 - s.snd.fst))
 False))
 (bcase (decide (n < 0))
 ((bytR s.snd.snd).length = (bytR s.snd.snd).length ∧
 bcase (capOk ((bytR s.snd.snd).length + 1) 1)
 (∃ (s_1 : Nat),
 ((bytR s.snd.snd).length + 1 = (bytR s.snd.snd).length + 1 ∧ 0 = (↑s_1 : Int) ∧ IntKind.i64.wrap ((↑((bytR s.snd.snd).length + 1) : Int) - 1) = (↑(bytR s.snd.snd ++ [45]).length : Int) - 1 - (↑s_1 : Int) ∧ Int.ofNat 45 = 45 ∧ bytR s.snd.snd ++ [45] = revA (bytR s.snd.snd ++ [45]) s_1 ∧ True) ∧
 (2 * s_1).le ((bytR s.snd.snd ++ [45]).length + 1) ∧
 ∀ (s_2 : Nat),
 (2 * s_2).le ((bytR s.snd.snd ++ [45]).length + 1) →
 bcase (decide ((↑s_2 : Int) < (↑(bytR s.snd.snd ++ [45]).length : Int) - 1 - (↑s_2 : Int)))
 (bcase (inB ((↑(bytR s.snd.snd ++ [45]).length : Int) - 1 - (↑s_2 : Int)) ((bytR s.snd.snd).length + 1))
 (bcase (((↑(bytR s.snd.snd ++ [45]).length : Int) - 1 - (↑s_2 : Int)).toNat.blt (revA (bytR s.snd.snd ++ [45]) s_2).length)
 (bcase (inB (↑s_2 : Int) ((bytR s.snd.snd).length + 1))
 (bcase ((↑s_2 : Int).toNat.blt (revA (bytR s.snd.snd ++ [45]) s_2).length)
 (bcase (inB (↑s_2 : Int) ((bytR s.snd.snd).length + 1))
 (bcase ((↑s_2 : Int).toNat.blt (revA (bytR s.snd.snd ++ [45]) s_2).length)
 (bcase (inB ((↑(bytR s.snd.snd ++ [45]).length : Int) - 1 - (↑s_2 : Int)) ((bytR s.snd.snd).length + 1))
 (bcase (((↑(bytR s.snd.snd ++ [45]).length : Int) - 1 - (↑s_2 : Int)).toNat.blt ((revA (bytR s.snd.snd ++ [45]) s_2).set (↑s_2 : Int).toNat ((revA (bytR s.snd.snd ++ [45]) s_2).getD ((↑(bytR s.snd.snd ++ [45]).length : Int) - 1 - (↑s_2 : Int)).toNat 0)).length)
 (∃ (s_3 : Nat),
 ((bytR s.snd.snd).length + 1 = (bytR s.snd.snd).length + 1 ∧
 IntKind.i64.wrap ((↑s_2 : Int) + 1) = (↑s_3 : Int) ∧
 IntKind.i64.wrap ((↑(bytR s.snd.snd ++ [45]).length : Int) - 1 - (↑s_2 : Int) - 1) = (↑(bytR s.snd.snd ++ [45]).length : Int) - 1 - (↑s_3 : Int) ∧
 Int.ofNat 45 = 45 ∧ ((revA (bytR s.snd.snd ++ [45]) s_2).set (↑s_2 : Int).toNat ((revA (bytR s.snd.snd ++ [45]) s_2).getD ((↑(bytR s.snd.snd ++ [45]).length : Int) - 1 - (↑s_2 : Int)).toNat 0)).set ((↑(bytR s.snd.snd ++ [45]).length : Int) - 1 - (↑s_2 : Int)).toNat ((revA (bytR s.snd.snd ++ [45]) s_2).getD (↑s_2 : Int).toNat 0) = revA (bytR s.snd.snd ++ [45]) s_3 ∧ True) ∧
 (2 * s_3).le ((bytR s.snd.snd ++ [45]).length + 1) ∧ (bytR s.snd.snd ++ [45]).length + 1 - s_3 < (bytR s.snd.snd ++ [45]).length + 1 - s_2)
 False)
 False)
 False)
 False)
 False)
 False)
 False)
 False)
 ((bytR s.snd.snd).length + 1 = (revA (bytR s.snd.snd ++ [45]) s_2).length ∧ K (Value.string (strV (revA (bytR s.snd.snd ++ [45]) s_2)))))
 False)
 (∃ (s_1 : Nat),
 ((bytR s.snd.snd).length = (bytR s.snd.snd).length ∧ 0 = (↑s_1 : Int) ∧ IntKind.i64.wrap ((↑(bytR s.snd.snd).length : Int) - 1) = (↑(bytR s.snd.snd).length : Int) - 1 - (↑s_1 : Int) ∧ bytR s.snd.snd = revA (bytR s.snd.snd) s_1 ∧ True) ∧
 (2 * s_1).le ((bytR s.snd.snd).length + 1) ∧
 ∀ (s_2 : Nat),
 (2 * s_2).le ((bytR s.snd.snd).length + 1) →
 bcase (decide ((↑s_2 : Int) < (↑(bytR s.snd.snd).length : Int) - 1 - (↑s_2 : Int)))
 (bcase (inB ((↑(bytR s.snd.snd).length : Int) - 1 - (↑s_2 : Int)) (bytR s.snd.snd).length)
 (bcase (((↑(bytR s.snd.snd).length : Int) - 1 - (↑s_2 : Int)).toNat.blt (revA (bytR s.snd.snd) s_2).length)
 (bcase (inB (↑s_2 : Int) (bytR s.snd.snd).length)
 (bcase ((↑s_2 : Int).toNat.blt (revA (bytR s.snd.snd) s_2).length)
 (bcase (inB (↑s_2 : Int) (bytR s.snd.snd).length)
 (bcase ((↑s_2 : Int).toNat.blt (revA (bytR s.snd.snd) s_2).length)
 (bcase (inB ((↑(bytR s.snd.snd).length : Int) - 1 - (↑s_2 : Int)) (bytR s.snd.snd).length)
 (bcase (((↑(bytR s.snd.snd).length : Int) - 1 - (↑s_2 : Int)).toNat.blt ((revA (bytR s.snd.snd) s_2).set (↑s_2 : Int).toNat ((revA (bytR s.snd.snd) s_2).getD ((↑(bytR s.snd.snd).length : Int) - 1 - (↑s_2 : Int)).toNat 0)).length)
 (∃ (s_3 : Nat),
 ((bytR s.snd.snd).length = (bytR s.snd.snd).length ∧
 IntKind.i64.wrap ((↑s_2 : Int) + 1) = (↑s_3 : Int) ∧
 IntKind.i64.wrap ((↑(bytR s.snd.snd).length : Int) - 1 - (↑s_2 : Int) - 1) = (↑(bytR s.snd.snd).length : Int) - 1 - (↑s_3 : Int) ∧
 ((revA (bytR s.snd.snd) s_2).set (↑s_2 : Int).toNat ((revA (bytR s.snd.snd) s_2).getD ((↑(bytR s.snd.snd).length : Int) - 1 - (↑s_2 : Int)).toNat 0)).set ((↑(bytR s.snd.snd).length : Int) - 1 - (↑s_2 : Int)).toNat ((revA (bytR s.snd.snd) s_2).getD (↑s_2 : Int).toNat 0) = revA (bytR s.snd.snd) s_3 ∧ True) ∧
 (2 * s_3).le ((bytR s.snd.snd).length + 1) ∧ (bytR s.snd.snd).length + 1 - s_3 < (bytR s.snd.snd).length + 1 - s_2)
 False)
 False)
 False)
 False)
 False)
 False)
 False)
 False)
 ((bytR s.snd.snd).length = (revA (bytR s.snd.snd) s_2).length ∧ K (Value.string (strV (revA (bytR s.snd.snd) s_2)))))))) := by kernel_rfl
theorem vc_format (n k : Int) (K : Value → Prop) : callsX Try.prog (ΓRd) (noAnn) 8 [num n, num k] K = (
 bcase (decide (k < 0)) (K (Value.tuple #[Value.string (ByteArray.mk #[]), Value.int IntKind.i64 2])) (bcase (decide (k > 9)) (K (Value.tuple #[Value.string (ByteArray.mk #[]), Value.int IntKind.i64 2])) (True ∧ bcase (decide ¬Fits n) (K (Value.tuple #[Value.string (ByteArray.mk #[]), Value.int IntKind.i64 5])) (FOk n k ∧ K (Value.tuple #[Value.string (fB n k), Value.int IntKind.i64 0]))))) := by kernel_rfl
theorem vc_print (lo hi u k : Int) (K : Value → Prop) : callsX Try.prog (ΓRd) (noAnn) 13 [num lo, num hi, num u, num k] K = (
 True ∧
 bcase (erR lo hi u != 0) (K (Value.tuple #[Value.string (ByteArray.mk #[]), Value.int IntKind.i64 (erR lo hi u)]))
 (bcase (decide (k < 0)) (K (Value.tuple #[Value.string (ByteArray.mk #[]), Value.int IntKind.i64 2]))
 (bcase (decide (k > 9)) (K (Value.tuple #[Value.string (ByteArray.mk #[]), Value.int IntKind.i64 2]))
 (bcase (gate (okR lo hi u) (mulI lo u) == gate (okR lo hi u) (mulI hi u)) (FOk (gate (okR lo hi u) (mulI lo u)) k ∧ K (Value.tuple #[Value.string (fB (gate (okR lo hi u) (mulI lo u)) k), Value.int IntKind.i64 0]))
 (FOk (gate (okR lo hi u) (mulI lo u)) k ∧
 bcase (tooLong (fB (gate (okR lo hi u) (mulI lo u)) k) (ByteArray.mk #[32, 46, 46, 32])) False
 (FOk (gate (okR lo hi u) (mulI hi u)) k ∧ bcase (tooLong (fB (gate (okR lo hi u) (mulI lo u)) k ++ ByteArray.mk #[32, 46, 46, 32]) (fB (gate (okR lo hi u) (mulI hi u)) k)) False (K (Value.tuple #[Value.string (fB (gate (okR lo hi u) (mulI lo u)) k ++ ByteArray.mk #[32, 46, 46, 32] ++ fB (gate (okR lo hi u) (mulI hi u)) k), Value.int IntKind.i64 0])))))))) := by kernel_rfl
theorem vc_r1digits (n k : Int) (K : Value → Prop) : callsX Try.prog ([]) (ADig n k) 28 [num n, num k] K = (
 ∃ (s : Nat × List UInt8),
 (n = (↑s.fst : Int) ∧ k = k - (↑s.snd.length : Int) ∧ ByteArray.mk #[] = ByteArray.mk s.snd.toArray ∧ True) ∧
 ((↑s.fst : Int) ≤ n ∧ digL s.fst (k - (↑s.snd.length : Int)).toNat ++ s.snd = digL n.toNat k.toNat) ∧
 ∀ (s : Nat × List UInt8),
 (↑s.fst : Int) ≤ n ∧ digL s.fst (k - (↑s.snd.length : Int)).toNat ++ s.snd = digL n.toNat k.toNat →
 bcase (decide ((↑s.fst : Int) > 0))
 (bcase (tooLong (strV [IntKind.u8.wrap (IntKind.i64.wrap (48 + (↑s.fst : Int).tmod 10))]) (ByteArray.mk s.snd.toArray)) False
 (∃ (s_1 : Nat × List UInt8),
 (IntKind.i64.wrap ((↑s.fst : Int).tdiv 10) = (↑s_1.fst : Int) ∧ IntKind.i64.wrap (k - (↑s.snd.length : Int) - 1) = k - (↑s_1.snd.length : Int) ∧ strV [IntKind.u8.wrap (IntKind.i64.wrap (48 + (↑s.fst : Int).tmod 10))] ++ ByteArray.mk s.snd.toArray = ByteArray.mk s_1.snd.toArray ∧ True) ∧
 ((↑s_1.fst : Int) ≤ n ∧ digL s_1.fst (k - (↑s_1.snd.length : Int)).toNat ++ s_1.snd = digL n.toNat k.toNat) ∧ s_1.fst + (k - (↑s_1.snd.length : Int)).toNat < s.fst + (k - (↑s.snd.length : Int)).toNat))
 (bcase (decide (k - (↑s.snd.length : Int) > 0))
 (bcase (tooLong (strV [IntKind.u8.wrap (IntKind.i64.wrap (48 + (↑s.fst : Int).tmod 10))]) (ByteArray.mk s.snd.toArray)) False
 (∃ (s_1 : Nat × List UInt8),
 (IntKind.i64.wrap ((↑s.fst : Int).tdiv 10) = (↑s_1.fst : Int) ∧ IntKind.i64.wrap (k - (↑s.snd.length : Int) - 1) = k - (↑s_1.snd.length : Int) ∧ strV [IntKind.u8.wrap (IntKind.i64.wrap (48 + (↑s.fst : Int).tmod 10))] ++ ByteArray.mk s.snd.toArray = ByteArray.mk s_1.snd.toArray ∧ True) ∧
 ((↑s_1.fst : Int) ≤ n ∧ digL s_1.fst (k - (↑s_1.snd.length : Int)).toNat ++ s_1.snd = digL n.toNat k.toNat) ∧ s_1.fst + (k - (↑s_1.snd.length : Int)).toNat < s.fst + (k - (↑s.snd.length : Int)).toNat))
 (K (Value.string (ByteArray.mk s.snd.toArray))))) := by kernel_rfl
theorem vc_r1power (k : Int) (K : Value → Prop) : callsX Try.prog ([]) (APow k) 29 [num k] K = (
 ∃ (s : Nat), (k = k ∧ 1 = p10 s ∧ 0 = (↑s : Int) ∧ True) ∧ (k - (↑s : Int)).NonNeg ∧ ∀ (s : Nat), (k - (↑s : Int)).NonNeg → bcase (decide ((↑s : Int) < k)) (∃ (s_1 : Nat), (k = k ∧ IntKind.i64.wrap (10 * p10 s) = p10 s_1 ∧ IntKind.i64.wrap ((↑s : Int) + 1) = (↑s_1 : Int) ∧ True) ∧ (k - (↑s_1 : Int)).NonNeg ∧ k.toNat - s_1 < k.toNat - s) (K (Value.int IntKind.i64 (p10 s)))) := by kernel_rfl
theorem vc_r1format (n k : Int) (K : Value → Prop) : callsX Try.prog (ΓRf) (noAnn) 11 [num n, num k] K = (
 bcase (decide (n < 0))
 (Dg9 k ∧
 bcase (p10 k.toNat == 0) False
 (DgOk (IntKind.i64.wrap ((IntKind.i64.wrap (0 - n)).tdiv (p10 k.toNat))) 1 ∧
 bcase (tooLong (ByteArray.mk #[45]) (digB (IntKind.i64.wrap ((IntKind.i64.wrap (0 - n)).tdiv (p10 k.toNat))) 1)) False
 (bcase (decide (k > 0))
 (bcase (tooLong (ByteArray.mk #[45] ++ digB (IntKind.i64.wrap ((IntKind.i64.wrap (0 - n)).tdiv (p10 k.toNat))) 1) (ByteArray.mk #[46])) False
 (Dg9 k ∧
 bcase (p10 k.toNat == 0) False
 (DgOk ((IntKind.i64.wrap (0 - n)).tmod (p10 k.toNat)) k ∧
 bcase (tooLong (ByteArray.mk #[45] ++ digB (IntKind.i64.wrap ((IntKind.i64.wrap (0 - n)).tdiv (p10 k.toNat))) 1 ++ ByteArray.mk #[46]) (digB ((IntKind.i64.wrap (0 - n)).tmod (p10 k.toNat)) k)) False (K (Value.string (ByteArray.mk #[45] ++ digB (IntKind.i64.wrap ((IntKind.i64.wrap (0 - n)).tdiv (p10 k.toNat))) 1 ++ ByteArray.mk #[46] ++ digB ((IntKind.i64.wrap (0 - n)).tmod (p10 k.toNat)) k))))))
 (K (Value.string (ByteArray.mk #[45] ++ digB (IntKind.i64.wrap ((IntKind.i64.wrap (0 - n)).tdiv (p10 k.toNat))) 1))))))
 (Dg9 k ∧
 bcase (p10 k.toNat == 0) False
 (DgOk (IntKind.i64.wrap (n.tdiv (p10 k.toNat))) 1 ∧
 bcase (tooLong (ByteArray.mk #[]) (digB (IntKind.i64.wrap (n.tdiv (p10 k.toNat))) 1)) False
 (bcase (decide (k > 0))
 (bcase (tooLong (ByteArray.mk #[] ++ digB (IntKind.i64.wrap (n.tdiv (p10 k.toNat))) 1) (ByteArray.mk #[46])) False
 (Dg9 k ∧ bcase (p10 k.toNat == 0) False (DgOk (n.tmod (p10 k.toNat)) k ∧ bcase (tooLong (ByteArray.mk #[] ++ digB (IntKind.i64.wrap (n.tdiv (p10 k.toNat))) 1 ++ ByteArray.mk #[46]) (digB (n.tmod (p10 k.toNat)) k)) False (K (Value.string (ByteArray.mk #[] ++ digB (IntKind.i64.wrap (n.tdiv (p10 k.toNat))) 1 ++ ByteArray.mk #[46] ++ digB (n.tmod (p10 k.toNat)) k))))))
 (K (Value.string (ByteArray.mk #[] ++ digB (IntKind.i64.wrap (n.tdiv (p10 k.toNat))) 1))))))) := by kernel_rfl
theorem vc_r1print (lo hi u k : Int) (K : Value → Prop) : callsX Try.prog (ΓRp) (noAnn) 15 [num lo, num hi, num u, num k] K = (
 True ∧
 bcase (er1 lo hi u != 0)
 (bcase (er1 lo hi u != 24) (K (Value.tuple #[Value.string (ByteArray.mk #[]), Value.int IntKind.i64 (er1 lo hi u)]))
 (bcase (decide (k < 0)) (K (Value.tuple #[Value.string (ByteArray.mk #[]), Value.int IntKind.i64 2]))
 (bcase (decide (k > 9)) (K (Value.tuple #[Value.string (ByteArray.mk #[]), Value.int IntKind.i64 2]))
 (MulOk lo u ∧
 FOk (mulI lo u) k ∧
 bcase (er1 lo hi u != 0) (bcase (tooLong (fB (mulI lo u) k) (ByteArray.mk #[32, 46, 46, 32])) False (MulOk hi u ∧ FOk (mulI hi u) k ∧ bcase (tooLong (fB (mulI lo u) k ++ ByteArray.mk #[32, 46, 46, 32]) (fB (mulI hi u) k)) False (K (Value.tuple #[Value.string (fB (mulI lo u) k ++ ByteArray.mk #[32, 46, 46, 32] ++ fB (mulI hi u) k), Value.int IntKind.i64 0]))))
 (K (Value.tuple #[Value.string (fB (mulI lo u) k), Value.int IntKind.i64 0]))))))
 (bcase (decide (k < 0)) (K (Value.tuple #[Value.string (ByteArray.mk #[]), Value.int IntKind.i64 2]))
 (bcase (decide (k > 9)) (K (Value.tuple #[Value.string (ByteArray.mk #[]), Value.int IntKind.i64 2]))
 (MulOk lo u ∧
 FOk (mulI lo u) k ∧
 bcase (er1 lo hi u != 0) (bcase (tooLong (fB (mulI lo u) k) (ByteArray.mk #[32, 46, 46, 32])) False (MulOk hi u ∧ FOk (mulI hi u) k ∧ bcase (tooLong (fB (mulI lo u) k ++ ByteArray.mk #[32, 46, 46, 32]) (fB (mulI hi u) k)) False (K (Value.tuple #[Value.string (fB (mulI lo u) k ++ ByteArray.mk #[32, 46, 46, 32] ++ fB (mulI hi u) k), Value.int IntKind.i64 0]))))
 (K (Value.tuple #[Value.string (fB (mulI lo u) k), Value.int IntKind.i64 0])))))) := by kernel_rfl
theorem vc_rounds (lo hi u k : Int) (K : Value → Prop) : callsX Try.prog (ΓLn) (noAnn) 4 [num lo, num hi, num u, num k] K = (
 True ∧ True ∧ True ∧ True ∧ True ∧ bcase (gate (ok1 lo hi u) (mulI lo u) == gate (ok1 lo hi u) (mulI lo u)) (bcase (er1 lo hi u == er1 lo hi u) (bcase ((gateS (okP lo hi u k) (prB lo hi u k)).toList == (gateS (okP lo hi u k) (prB lo hi u k)).toList) (K (Value.bool (erP lo hi u k == erP lo hi u k))) (K (Value.bool false))) (K (Value.bool false))) (K (Value.bool false))) := by kernel_rfl
theorem vc_near (lo w u a : Int) (K : Value → Prop) : callsX Try.prog (ΓLn) (ANear) 5 [num lo, .int .u16 w, num u, .int .u16 a] K = (
 True ∧
 bcase (decide (lo < -1125899906842624)) (K (Value.bool true))
 (bcase (decide (lo > 1125899906842624)) (K (Value.bool true))
 (bcase (decide (u < 1)) (K (Value.bool true))
 (bcase (decide (u > 1099511627776)) (K (Value.bool true))
 (bcase (IntKind.i64.wrap (IntKind.i64.wrap w + 1) == 0) False
 (True ∧
 True ∧
 True ∧
 bcase (er1 lo lo u != 0) (K (Value.bool false))
 (bcase (er1 (IntKind.i64.wrap (lo + IntKind.i64.wrap w)) (IntKind.i64.wrap (lo + IntKind.i64.wrap w)) u != 0) (K (Value.bool false))
 (bcase (er1 (IntKind.i64.wrap (lo + (IntKind.i64.wrap a).tmod (IntKind.i64.wrap (IntKind.i64.wrap w + 1)))) (IntKind.i64.wrap (lo + (IntKind.i64.wrap a).tmod (IntKind.i64.wrap (IntKind.i64.wrap w + 1)))) u != 0) (K (Value.bool false))
 (bcase (decide (gate (ok1 lo lo u) (mulI lo u) < -2251799813685248)) (K (Value.bool false))
 (bcase (decide (gate (ok1 (IntKind.i64.wrap (lo + IntKind.i64.wrap w)) (IntKind.i64.wrap (lo + IntKind.i64.wrap w)) u) (mulI (IntKind.i64.wrap (lo + IntKind.i64.wrap w)) u) > 2251799813685248)) (K (Value.bool false))
 (bcase (decide (gate (ok1 lo lo u) (mulI lo u) > gate (ok1 (IntKind.i64.wrap (lo + (IntKind.i64.wrap a).tmod (IntKind.i64.wrap (IntKind.i64.wrap w + 1)))) (IntKind.i64.wrap (lo + (IntKind.i64.wrap a).tmod (IntKind.i64.wrap (IntKind.i64.wrap w + 1)))) u) (mulI (IntKind.i64.wrap (lo + (IntKind.i64.wrap a).tmod (IntKind.i64.wrap (IntKind.i64.wrap w + 1)))) u))) (K (Value.bool false))
 (bcase
 (decide
 (gate (ok1 (IntKind.i64.wrap (lo + (IntKind.i64.wrap a).tmod (IntKind.i64.wrap (IntKind.i64.wrap w + 1)))) (IntKind.i64.wrap (lo + (IntKind.i64.wrap a).tmod (IntKind.i64.wrap (IntKind.i64.wrap w + 1)))) u) (mulI (IntKind.i64.wrap (lo + (IntKind.i64.wrap a).tmod (IntKind.i64.wrap (IntKind.i64.wrap w + 1)))) u) >
 gate (ok1 (IntKind.i64.wrap (lo + IntKind.i64.wrap w)) (IntKind.i64.wrap (lo + IntKind.i64.wrap w)) u) (mulI (IntKind.i64.wrap (lo + IntKind.i64.wrap w)) u)))
 (K (Value.bool false))
 (bcase (u == 0) False
 (bcase (decide (gate (ok1 lo lo u) (mulI lo u) < IntKind.i64.wrap (IntKind.i64.wrap ((-2251799813685248).tdiv u) - 1))) (K (Value.bool false))
 (bcase (u == 0) False
 (bcase (decide (gate (ok1 lo lo u) (mulI lo u) > IntKind.i64.wrap (IntKind.i64.wrap (Int.tdiv 2251799813685248 u) + 1))) (K (Value.bool false))
 (bcase (decide (IntKind.i64.wrap (2 * IntKind.i64.wrap (lo - IntKind.i64.wrap (u * gate (ok1 lo lo u) (mulI lo u)))) < IntKind.i64.wrap (0 - u))) (K (Value.bool false))
 (bcase (decide (IntKind.i64.wrap (2 * IntKind.i64.wrap (lo - IntKind.i64.wrap (u * gate (ok1 lo lo u) (mulI lo u)))) ≥ u)) (K (Value.bool false))
 (bcase (u == 0) False
 (bcase (decide (gate (ok1 (IntKind.i64.wrap (lo + (IntKind.i64.wrap a).tmod (IntKind.i64.wrap (IntKind.i64.wrap w + 1)))) (IntKind.i64.wrap (lo + (IntKind.i64.wrap a).tmod (IntKind.i64.wrap (IntKind.i64.wrap w + 1)))) u) (mulI (IntKind.i64.wrap (lo + (IntKind.i64.wrap a).tmod (IntKind.i64.wrap (IntKind.i64.wrap w + 1)))) u) < IntKind.i64.wrap (IntKind.i64.wrap ((-2251799813685248).tdiv u) - 1)))
 (K (Value.bool false))
 (bcase (u == 0) False
 (bcase (decide (gate (ok1 (IntKind.i64.wrap (lo + (IntKind.i64.wrap a).tmod (IntKind.i64.wrap (IntKind.i64.wrap w + 1)))) (IntKind.i64.wrap (lo + (IntKind.i64.wrap a).tmod (IntKind.i64.wrap (IntKind.i64.wrap w + 1)))) u) (mulI (IntKind.i64.wrap (lo + (IntKind.i64.wrap a).tmod (IntKind.i64.wrap (IntKind.i64.wrap w + 1)))) u) > IntKind.i64.wrap (IntKind.i64.wrap (Int.tdiv 2251799813685248 u) + 1)))
 (K (Value.bool false))
 (bcase
 (decide
 (IntKind.i64.wrap
 (2 *
 IntKind.i64.wrap
 (IntKind.i64.wrap (lo + (IntKind.i64.wrap a).tmod (IntKind.i64.wrap (IntKind.i64.wrap w + 1))) -
 IntKind.i64.wrap (u * gate (ok1 (IntKind.i64.wrap (lo + (IntKind.i64.wrap a).tmod (IntKind.i64.wrap (IntKind.i64.wrap w + 1)))) (IntKind.i64.wrap (lo + (IntKind.i64.wrap a).tmod (IntKind.i64.wrap (IntKind.i64.wrap w + 1)))) u) (mulI (IntKind.i64.wrap (lo + (IntKind.i64.wrap a).tmod (IntKind.i64.wrap (IntKind.i64.wrap w + 1)))) u)))) <
 IntKind.i64.wrap (0 - u)))
 (K (Value.bool false))
 (bcase
 (decide
 (IntKind.i64.wrap
 (2 *
 IntKind.i64.wrap
 (IntKind.i64.wrap (lo + (IntKind.i64.wrap a).tmod (IntKind.i64.wrap (IntKind.i64.wrap w + 1))) -
 IntKind.i64.wrap (u * gate (ok1 (IntKind.i64.wrap (lo + (IntKind.i64.wrap a).tmod (IntKind.i64.wrap (IntKind.i64.wrap w + 1)))) (IntKind.i64.wrap (lo + (IntKind.i64.wrap a).tmod (IntKind.i64.wrap (IntKind.i64.wrap w + 1)))) u) (mulI (IntKind.i64.wrap (lo + (IntKind.i64.wrap a).tmod (IntKind.i64.wrap (IntKind.i64.wrap w + 1)))) u)))) ≥
 u))
 (K (Value.bool false))
 (bcase (u == 0) False
 (bcase (decide (gate (ok1 (IntKind.i64.wrap (lo + IntKind.i64.wrap w)) (IntKind.i64.wrap (lo + IntKind.i64.wrap w)) u) (mulI (IntKind.i64.wrap (lo + IntKind.i64.wrap w)) u) < IntKind.i64.wrap (IntKind.i64.wrap ((-2251799813685248).tdiv u) - 1))) (K (Value.bool false))
 (bcase (u == 0) False
 (bcase (decide (gate (ok1 (IntKind.i64.wrap (lo + IntKind.i64.wrap w)) (IntKind.i64.wrap (lo + IntKind.i64.wrap w)) u) (mulI (IntKind.i64.wrap (lo + IntKind.i64.wrap w)) u) > IntKind.i64.wrap (IntKind.i64.wrap (Int.tdiv 2251799813685248 u) + 1))) (K (Value.bool false))
 (bcase (decide (IntKind.i64.wrap (2 * IntKind.i64.wrap (IntKind.i64.wrap (lo + IntKind.i64.wrap w) - IntKind.i64.wrap (u * gate (ok1 (IntKind.i64.wrap (lo + IntKind.i64.wrap w)) (IntKind.i64.wrap (lo + IntKind.i64.wrap w)) u) (mulI (IntKind.i64.wrap (lo + IntKind.i64.wrap w)) u)))) < IntKind.i64.wrap (0 - u))) (K (Value.bool false))
 (bcase (decide (IntKind.i64.wrap (2 * IntKind.i64.wrap (IntKind.i64.wrap (lo + IntKind.i64.wrap w) - IntKind.i64.wrap (u * gate (ok1 (IntKind.i64.wrap (lo + IntKind.i64.wrap w)) (IntKind.i64.wrap (lo + IntKind.i64.wrap w)) u) (mulI (IntKind.i64.wrap (lo + IntKind.i64.wrap w)) u)))) ≥ u)) (K (Value.bool false))
 (True ∧
 bcase (gate (ok1 lo lo u) (mulI lo u) != gate (ok1 (IntKind.i64.wrap (lo + IntKind.i64.wrap w)) (IntKind.i64.wrap (lo + IntKind.i64.wrap w)) u) (mulI (IntKind.i64.wrap (lo + IntKind.i64.wrap w)) u)) (bcase (er1 lo (IntKind.i64.wrap (lo + IntKind.i64.wrap w)) u == 24) (K (Value.bool (gate (ok1 lo (IntKind.i64.wrap (lo + IntKind.i64.wrap w)) u) (mulI lo u) == 0))) (K (Value.bool false)))
 (bcase (er1 lo (IntKind.i64.wrap (lo + IntKind.i64.wrap w)) u == 0) (K (Value.bool (gate (ok1 lo (IntKind.i64.wrap (lo + IntKind.i64.wrap w)) u) (mulI lo u) == gate (ok1 lo lo u) (mulI lo u)))) (K (Value.bool false)))))))))))))))))))))))))))))))))) := by kernel_rfl
end Go.Proofs.Ytobmbbmompoliaa
