/- Refraction: what the tables ask. -/
import Derived.Test.YtidhogcijghogaaGreatDoorRfrTS
namespace Go.Proofs.YtidhogcijghogaaGreatDoor
open Go Go.Abs Go.RowKit
set_option linter.unusedVariables false
set_option linter.unusedSimpArgs false
theorem vc_antext20 (n : Int) (K : Value → Prop) : callsX Tryz.prog (ΓTxU) (noAnn) 11 [num n] K = (
 True ∧ bcase (!decide (Dp.Fit n)) (K (Value.tuple #[Value.string (ByteArray.mk #[]), Value.int IntKind.i64 5])) (Dp.Fit n ∧ K (Value.tuple #[Value.string (Dp.textB n), Value.int IntKind.i64 0]))) := by kernel_rfl
theorem vc_rftable (f t s : Int) : rcallsX Tryz.prog (ΓTbU) (ATbU f t s) 5 [oV (num f), oV (num t), oV (num s)] [.one (bR (tabU f t s)), .one (.v (num (tabUE f t s)))] = (
 bcase (decide (f ≥ -60000))
 (bcase (!decide (f ≤ 5400000)) ([] = tabU f t s ∧ Value.int IntKind.i64 2 = Value.int IntKind.i64 (tabUE f t s) ∧ True)
 (bcase (decide (t ≥ -60000))
 (bcase (!decide (t ≤ 5400000)) ([] = tabU f t s ∧ Value.int IntKind.i64 2 = Value.int IntKind.i64 (tabUE f t s) ∧ True)
 (bcase (decide (f > t)) ([] = tabU f t s ∧ Value.int IntKind.i64 2 = Value.int IntKind.i64 (tabUE f t s) ∧ True)
 (bcase (decide (s ≥ 1))
 (bcase (!decide (s ≤ 5400000)) ([] = tabU f t s ∧ Value.int IntKind.i64 2 = Value.int IntKind.i64 (tabUE f t s) ∧ True)
 (bcase (s == 0) False
 (bcase (decide (IntKind.i64.wrap ((IntKind.i64.wrap (t - f)).tdiv s) ≥ 1000)) ([] = tabU f t s ∧ Value.int IntKind.i64 4 = Value.int IntKind.i64 (tabUE f t s) ∧ True)
 (∃ (s_1 : Nat),
 (t = t ∧ s = s ∧ (linesU f s s_1).length = 0 ∧ f = f + (↑s_1 : Int) * s ∧ linesU f s s_1 = [] ∧ True) ∧
 s_1.le (nTb f t s) ∧
 ∀ (s_2 : Nat),
 s_2.le (nTb f t s) →
 bcase (decide (f + (↑s_2 : Int) * s ≤ t))
 (RU (f + (↑s_2 : Int) * s) ∧
 RU (f + (↑s_2 : Int) * s) ∧
 PrOk (oneL (f + (↑s_2 : Int) * s)) (oneH (f + (↑s_2 : Int) * s)) ∧
 bcase (tooLong (Dp.textB (f + (↑s_2 : Int) * s)) (ByteArray.mk #[32])) False
 (bcase (tooLong (Dp.textB (f + (↑s_2 : Int) * s) ++ ByteArray.mk #[32]) (Dp.printB (oneL (f + (↑s_2 : Int) * s)) (oneH (f + (↑s_2 : Int) * s)))) False
 ((linesU f s s_2).length = (linesU f s s_2).length ∧
 bcase (capOk ((linesU f s s_2).length + 1) 16)
 (∃ (s_3 : Nat),
 (t = t ∧ s = s ∧ (linesU f s s_2).length + 1 = (linesU f s s_3).length ∧ (linesU f s s_2).length + 1 ≠ 0 ∧ IntKind.i64.wrap (f + (↑s_2 : Int) * s + s) = f + (↑s_3 : Int) * s ∧ linesU f s s_2 ++ [Dp.textB (f + (↑s_2 : Int) * s) ++ ByteArray.mk #[32] ++ Dp.printB (oneL (f + (↑s_2 : Int) * s)) (oneH (f + (↑s_2 : Int) * s))] = linesU f s s_3 ∧ True) ∧
 s_3.le (nTb f t s) ∧ nTb f t s - s_3 < nTb f t s - s_2)
 False)))
 ((linesU f s s_2).length = (linesU f s s_2).length ∧ linesU f s s_2 = tabU f t s ∧ Value.int IntKind.i64 0 = Value.int IntKind.i64 (tabUE f t s) ∧ True)))))
 ([] = tabU f t s ∧ Value.int IntKind.i64 2 = Value.int IntKind.i64 (tabUE f t s) ∧ True))))
 ([] = tabU f t s ∧ Value.int IntKind.i64 2 = Value.int IntKind.i64 (tabUE f t s) ∧ True)))
 ([] = tabU f t s ∧ Value.int IntKind.i64 2 = Value.int IntKind.i64 (tabUE f t s) ∧ True)) := by kernel_rfl
theorem vc_r20table (f t s : Int) : rcallsX Tryz.prog (ΓTbR) (ATbR f t s) 6 [oV (num f), oV (num t), oV (num s)] [.one (bR (tabU f t s)), .one (.v (num (tabUE f t s)))] = (
 bcase (decide (f < -60000)) ([] = tabU f t s ∧ Value.int IntKind.i64 2 = Value.int IntKind.i64 (tabUE f t s) ∧ True)
 (bcase (decide (t > 5400000)) ([] = tabU f t s ∧ Value.int IntKind.i64 2 = Value.int IntKind.i64 (tabUE f t s) ∧ True)
 (bcase (decide (f > t)) ([] = tabU f t s ∧ Value.int IntKind.i64 2 = Value.int IntKind.i64 (tabUE f t s) ∧ True)
 (bcase (decide (s < 1)) ([] = tabU f t s ∧ Value.int IntKind.i64 2 = Value.int IntKind.i64 (tabUE f t s) ∧ True)
 (bcase (decide (s > 5400000)) ([] = tabU f t s ∧ Value.int IntKind.i64 2 = Value.int IntKind.i64 (tabUE f t s) ∧ True)
 (bcase (s == 0) False
 (bcase (decide (IntKind.i64.wrap (IntKind.i64.wrap ((IntKind.i64.wrap (t - f)).tdiv s) + 1) > 1000)) ([] = tabU f t s ∧ Value.int IntKind.i64 4 = Value.int IntKind.i64 (tabUE f t s) ∧ True)
 (∃ (s_1 : Nat),
 (t = t ∧ s = s ∧ (linesU f s s_1).length = 0 ∧ f = f + (↑s_1 : Int) * s ∧ linesU f s s_1 = [] ∧ True) ∧
 s_1.le (nTb f t s) ∧
 ∀ (s_2 : Nat),
 s_2.le (nTb f t s) →
 bcase (decide (f + (↑s_2 : Int) * s ≤ t))
 (RU (f + (↑s_2 : Int) * s) ∧
 PrOk (oneL (f + (↑s_2 : Int) * s)) (oneH (f + (↑s_2 : Int) * s)) ∧
 RU (f + (↑s_2 : Int) * s) ∧
 bcase (tooLong (Dp.textB (f + (↑s_2 : Int) * s)) (ByteArray.mk #[32])) False
 (bcase (tooLong (Dp.textB (f + (↑s_2 : Int) * s) ++ ByteArray.mk #[32]) (Dp.printB (oneL (f + (↑s_2 : Int) * s)) (oneH (f + (↑s_2 : Int) * s)))) False
 ((linesU f s s_2).length = (linesU f s s_2).length ∧
 bcase (capOk ((linesU f s s_2).length + 1) 16)
 (∃ (s_3 : Nat),
 (t = t ∧ s = s ∧ (linesU f s s_2).length + 1 = (linesU f s s_3).length ∧ (linesU f s s_2).length + 1 ≠ 0 ∧ IntKind.i64.wrap (f + (↑s_2 : Int) * s + s) = f + (↑s_3 : Int) * s ∧ linesU f s s_2 ++ [Dp.textB (f + (↑s_2 : Int) * s) ++ ByteArray.mk #[32] ++ Dp.printB (oneL (f + (↑s_2 : Int) * s)) (oneH (f + (↑s_2 : Int) * s))] = linesU f s s_3 ∧ True) ∧
 s_3.le (nTb f t s) ∧ nTb f t s - s_3 < nTb f t s - s_2)
 False)))
 ((linesU f s s_2).length = (linesU f s s_2).length ∧ linesU f s s_2 = tabU f t s ∧ Value.int IntKind.i64 0 = Value.int IntKind.i64 (tabUE f t s) ∧ True))))))))) := by kernel_rfl
theorem vc_lawtables (f t s : Int) (tb : Int → Int → Int → List ByteArray) (te : Int → Int → Int → Int) : rcallsX Tryz.prog (ΓLt20 tb te) (noAnn) 3 [oV (num f), oV (num t), oV (num s)] [oV (.bool true)] = (
 True ∧
 bcase (decide (f ≥ -60000))
 (bcase (decide (t ≤ 5400000))
 (bcase (decide (f ≤ t))
 (bcase (decide (s > 0))
 (bcase (s == 0) False
 (bcase (decide (IntKind.i64.wrap (IntKind.i64.wrap ((IntKind.i64.wrap (t - f)).tdiv s) + 1) > 100))
 (bcase (decide (IntKind.i64.wrap (IntKind.i64.wrap ((IntKind.i64.wrap (t - f)).tdiv s) + 1) ≤ 1000)) (Value.bool true = Value.bool true ∧ True)
 ((I64 f ∧ I64 t ∧ I64 s) ∧
 (I64 f ∧ I64 t ∧ I64 s) ∧ bcase (te f t s == te f t s) (0 + (tb f t s).length ≤ (tb f t s).length ∧ ∀ (z : List ByteArray), z = List.take (tb f t s).length (tb f t s) → 0 + (tb f t s).length ≤ (tb f t s).length ∧ ∀ (z_1 : List ByteArray), z_1 = List.take (tb f t s).length (tb f t s) → EqOk z z_1 ∧ Value.bool (decide (z = z_1)) = Value.bool true ∧ True) (Value.bool false = Value.bool true ∧ True)))
 ((I64 f ∧ I64 t ∧ I64 s) ∧
 (I64 f ∧ I64 t ∧ I64 s) ∧
 bcase (te f t s == te f t s) (0 + (tb f t s).length ≤ (tb f t s).length ∧ ∀ (z : List ByteArray), z = List.take (tb f t s).length (tb f t s) → 0 + (tb f t s).length ≤ (tb f t s).length ∧ ∀ (z_1 : List ByteArray), z_1 = List.take (tb f t s).length (tb f t s) → EqOk z z_1 ∧ Value.bool (decide (z = z_1)) = Value.bool true ∧ True) (Value.bool false = Value.bool true ∧ True))))
 ((I64 f ∧ I64 t ∧ I64 s) ∧
 (I64 f ∧ I64 t ∧ I64 s) ∧ bcase (te f t s == te f t s) (0 + (tb f t s).length ≤ (tb f t s).length ∧ ∀ (z : List ByteArray), z = List.take (tb f t s).length (tb f t s) → 0 + (tb f t s).length ≤ (tb f t s).length ∧ ∀ (z_1 : List ByteArray), z_1 = List.take (tb f t s).length (tb f t s) → EqOk z z_1 ∧ Value.bool (decide (z = z_1)) = Value.bool true ∧ True) (Value.bool false = Value.bool true ∧ True)))
 ((I64 f ∧ I64 t ∧ I64 s) ∧
 (I64 f ∧ I64 t ∧ I64 s) ∧ bcase (te f t s == te f t s) (0 + (tb f t s).length ≤ (tb f t s).length ∧ ∀ (z : List ByteArray), z = List.take (tb f t s).length (tb f t s) → 0 + (tb f t s).length ≤ (tb f t s).length ∧ ∀ (z_1 : List ByteArray), z_1 = List.take (tb f t s).length (tb f t s) → EqOk z z_1 ∧ Value.bool (decide (z = z_1)) = Value.bool true ∧ True) (Value.bool false = Value.bool true ∧ True)))
 ((I64 f ∧ I64 t ∧ I64 s) ∧
 (I64 f ∧ I64 t ∧ I64 s) ∧ bcase (te f t s == te f t s) (0 + (tb f t s).length ≤ (tb f t s).length ∧ ∀ (z : List ByteArray), z = List.take (tb f t s).length (tb f t s) → 0 + (tb f t s).length ≤ (tb f t s).length ∧ ∀ (z_1 : List ByteArray), z_1 = List.take (tb f t s).length (tb f t s) → EqOk z z_1 ∧ Value.bool (decide (z = z_1)) = Value.bool true ∧ True) (Value.bool false = Value.bool true ∧ True)))
 ((I64 f ∧ I64 t ∧ I64 s) ∧
 (I64 f ∧ I64 t ∧ I64 s) ∧ bcase (te f t s == te f t s) (0 + (tb f t s).length ≤ (tb f t s).length ∧ ∀ (z : List ByteArray), z = List.take (tb f t s).length (tb f t s) → 0 + (tb f t s).length ≤ (tb f t s).length ∧ ∀ (z_1 : List ByteArray), z_1 = List.take (tb f t s).length (tb f t s) → EqOk z z_1 ∧ Value.bool (decide (z = z_1)) = Value.bool true ∧ True) (Value.bool false = Value.bool true ∧ True))) := by kernel_rfl
end Go.Proofs.YtidhogcijghogaaGreatDoor
