/- What the tables of dip, of its reference and of its laws ask. -/
import Derived.Test.YtfcdcegamcjaiaaDoorSpecE
namespace Go.Proofs.YtfcdcegamcjaiaaDoor
open Go Go.Abs Go.RowKit
set_option linter.unusedVariables false
set_option linter.unusedSimpArgs false
theorem vc_eqS (xs ys : List ByteArray) : rcallsX Tryd.prog ([]) (AEqS xs ys) 16 [.one (bR xs), .one (bR ys)] [.one (.v (.bool (decide (xs = ys))))] = (
 bcase ((↑xs.length : Int) != (↑ys.length : Int)) (Value.bool false = Value.bool (decide (xs = ys)) ∧ True)
 (∃ (s : Nat),
 (xs.length = xs.length ∧ ys.length = ys.length ∧ (↑xs.length : Int) = (↑xs.length : Int) ∧ 0 = (↑s : Int) ∧ xs = xs ∧ ys = ys ∧ True) ∧
 (s ≤ xs.length ∧ xs.length = ys.length ∧ List.take s xs = List.take s ys) ∧
 ∀ (s : Nat),
 s ≤ xs.length ∧ xs.length = ys.length ∧ List.take s xs = List.take s ys →
 bcase (decide ((↑s : Int) < (↑xs.length : Int)))
 (bcase (inB (↑s : Int) xs.length)
 (bcase ((↑s : Int).toNat.blt xs.length)
 (bcase (inB (↑s : Int) ys.length)
 (bcase ((↑s : Int).toNat.blt ys.length)
 (bcase (!ByteArray.toList (xs.getD (↑s : Int).toNat (ByteArray.mk #[])) == ByteArray.toList (ys.getD (↑s : Int).toNat (ByteArray.mk #[]))) (Value.bool false = Value.bool (decide (xs = ys)) ∧ True)
 (∃ (s_1 : Nat), (xs.length = xs.length ∧ ys.length = ys.length ∧ (↑xs.length : Int) = (↑xs.length : Int) ∧ IntKind.i64.wrap ((↑s : Int) + 1) = (↑s_1 : Int) ∧ xs = xs ∧ ys = ys ∧ True) ∧ (s_1 ≤ xs.length ∧ xs.length = ys.length ∧ List.take s_1 xs = List.take s_1 ys) ∧ xs.length - s_1 < xs.length - s))
 False)
 False)
 False)
 False)
 (Value.bool true = Value.bool (decide (xs = ys)) ∧ True))) := by kernel_rfl
theorem vc_dtable (xs : List Int) : rcallsX Tryd.prog (ΓTb) (ATab xs) 14 [.one (iR xs)] [.one (bR (tabL xs)), .one (.v (num (tabE xs)))] = (
 bcase (decide ((↑xs.length : Int) > 1000)) ([] = tabL xs ∧ Value.int IntKind.i64 4 = Value.int IntKind.i64 (tabE xs) ∧ True)
 (∃ (s : Nat),
 (xs.length = xs.length ∧ (linesT xs s).length = 0 ∧ xs.length = xs.length ∧ (↑xs.length : Int) = (↑xs.length : Int) ∧ 0 = (↑s : Int) ∧ xs = xs ∧ linesT xs s = [] ∧ True) ∧
 (s ≤ xs.length ∧ AllEye (List.take s xs)) ∧
 ∀ (s : Nat),
 s ≤ xs.length ∧ AllEye (List.take s xs) →
 bcase (decide ((↑s : Int) < (↑xs.length : Int)))
 (bcase (inB (↑s : Int) xs.length)
 (bcase ((↑s : Int).toNat.blt xs.length)
 (True ∧
 bcase (pick (Eye (xs.getD (↑s : Int).toNat 0)) 0 2 != 0) ([] = tabL xs ∧ Value.int IntKind.i64 (pick (Eye (xs.getD (↑s : Int).toNat 0)) 0 2) = Value.int IntKind.i64 (tabE xs) ∧ True)
 (True ∧
 bcase (pick (Val (gate (Eye (xs.getD (↑s : Int).toNat 0)) (dLo (xs.getD (↑s : Int).toNat 0))) (gate (Eye (xs.getD (↑s : Int).toNat 0)) (dHi (xs.getD (↑s : Int).toNat 0)))) (pick (Fit (rnd (gate (Eye (xs.getD (↑s : Int).toNat 0)) (dLo (xs.getD (↑s : Int).toNat 0)))) ∧ Fit (rnd (gate (Eye (xs.getD (↑s : Int).toNat 0)) (dHi (xs.getD (↑s : Int).toNat 0))))) 0 5) 1 != 0)
 ([] = tabL xs ∧
 Value.int IntKind.i64 (pick (Val (gate (Eye (xs.getD (↑s : Int).toNat 0)) (dLo (xs.getD (↑s : Int).toNat 0))) (gate (Eye (xs.getD (↑s : Int).toNat 0)) (dHi (xs.getD (↑s : Int).toNat 0)))) (pick (Fit (rnd (gate (Eye (xs.getD (↑s : Int).toNat 0)) (dLo (xs.getD (↑s : Int).toNat 0)))) ∧ Fit (rnd (gate (Eye (xs.getD (↑s : Int).toNat 0)) (dHi (xs.getD (↑s : Int).toNat 0))))) 0 5) 1) =
 Value.int IntKind.i64 (tabE xs) ∧
 True)
 (I64 (xs.getD (↑s : Int).toNat 0) ∧
 bcase (tooLong (itoaB (xs.getD (↑s : Int).toNat 0)) (ByteArray.mk #[32])) False
 (bcase (tooLong (itoaB (xs.getD (↑s : Int).toNat 0) ++ ByteArray.mk #[32]) (printB (gate (Eye (xs.getD (↑s : Int).toNat 0)) (dLo (xs.getD (↑s : Int).toNat 0))) (gate (Eye (xs.getD (↑s : Int).toNat 0)) (dHi (xs.getD (↑s : Int).toNat 0))))) False
 ((linesT xs s).length = (linesT xs s).length ∧
 bcase (capOk ((linesT xs s).length + 1) 16)
 (∃ (s_1 : Nat),
 (xs.length = xs.length ∧
 (linesT xs s).length + 1 = (linesT xs s_1).length ∧
 (linesT xs s).length + 1 ≠ 0 ∧
 xs.length = xs.length ∧ (↑xs.length : Int) = (↑xs.length : Int) ∧ IntKind.i64.wrap ((↑s : Int) + 1) = (↑s_1 : Int) ∧ xs = xs ∧ linesT xs s ++ [itoaB (xs.getD (↑s : Int).toNat 0) ++ ByteArray.mk #[32] ++ printB (gate (Eye (xs.getD (↑s : Int).toNat 0)) (dLo (xs.getD (↑s : Int).toNat 0))) (gate (Eye (xs.getD (↑s : Int).toNat 0)) (dHi (xs.getD (↑s : Int).toNat 0)))] = linesT xs s_1 ∧ True) ∧
 (s_1 ≤ xs.length ∧ AllEye (List.take s_1 xs)) ∧ xs.length - s_1 < xs.length - s)
 False)))))
 False)
 False)
 ((linesT xs s).length = (linesT xs s).length ∧ linesT xs s = tabL xs ∧ Value.int IntKind.i64 0 = Value.int IntKind.i64 (tabE xs) ∧ True))) := by kernel_rfl
theorem vc_r19table (xs : List Int) : rcallsX Tryd.prog (ΓT5) (ATab5 xs) 15 [.one (iR xs)] [.one (bR (tabL xs)), .one (.v (num (tabE xs)))] = (
 bcase (decide ((↑xs.length : Int) > 1000)) ([] = tabL xs ∧ Value.int IntKind.i64 4 = Value.int IntKind.i64 (tabE xs) ∧ True)
 (∃ (s : Nat),
 (xs.length = xs.length ∧ (linesT xs s).length = 0 ∧ 0 = (↑s : Int) ∧ xs = xs ∧ linesT xs s = [] ∧ True) ∧
 (s ≤ xs.length ∧ AllEye (List.take s xs)) ∧
 ∀ (s : Nat),
 s ≤ xs.length ∧ AllEye (List.take s xs) →
 bcase (decide ((↑s : Int) < (↑xs.length : Int)))
 (bcase (inB (↑s : Int) xs.length)
 (bcase ((↑s : Int).toNat.blt xs.length)
 (True ∧
 bcase (pick (Eye (xs.getD (↑s : Int).toNat 0)) 0 2 != 0) ([] = tabL xs ∧ Value.int IntKind.i64 (pick (Eye (xs.getD (↑s : Int).toNat 0)) 0 2) = Value.int IntKind.i64 (tabE xs) ∧ True)
 (Val (gate (Eye (xs.getD (↑s : Int).toNat 0)) (dLo (xs.getD (↑s : Int).toNat 0))) (gate (Eye (xs.getD (↑s : Int).toNat 0)) (dHi (xs.getD (↑s : Int).toNat 0))) ∧
 bcase (pick (Fit (rnd (gate (Eye (xs.getD (↑s : Int).toNat 0)) (dLo (xs.getD (↑s : Int).toNat 0)))) ∧ Fit (rnd (gate (Eye (xs.getD (↑s : Int).toNat 0)) (dHi (xs.getD (↑s : Int).toNat 0))))) 0 5 != 0)
 ([] = tabL xs ∧ Value.int IntKind.i64 (pick (Fit (rnd (gate (Eye (xs.getD (↑s : Int).toNat 0)) (dLo (xs.getD (↑s : Int).toNat 0)))) ∧ Fit (rnd (gate (Eye (xs.getD (↑s : Int).toNat 0)) (dHi (xs.getD (↑s : Int).toNat 0))))) 0 5) = Value.int IntKind.i64 (tabE xs) ∧ True)
 (bcase (inB (↑s : Int) xs.length)
 (bcase ((↑s : Int).toNat.blt xs.length)
 (I64 (xs.getD (↑s : Int).toNat 0) ∧
 bcase (tooLong (itoaB (xs.getD (↑s : Int).toNat 0)) (ByteArray.mk #[32])) False
 (bcase (tooLong (itoaB (xs.getD (↑s : Int).toNat 0) ++ ByteArray.mk #[32]) (printB (gate (Eye (xs.getD (↑s : Int).toNat 0)) (dLo (xs.getD (↑s : Int).toNat 0))) (gate (Eye (xs.getD (↑s : Int).toNat 0)) (dHi (xs.getD (↑s : Int).toNat 0))))) False
 ((linesT xs s).length = (linesT xs s).length ∧
 bcase (capOk ((linesT xs s).length + 1) 16)
 (∃ (s_1 : Nat),
 (xs.length = xs.length ∧
 (linesT xs s).length + 1 = (linesT xs s_1).length ∧
 (linesT xs s).length + 1 ≠ 0 ∧ IntKind.i64.wrap ((↑s : Int) + 1) = (↑s_1 : Int) ∧ xs = xs ∧ linesT xs s ++ [itoaB (xs.getD (↑s : Int).toNat 0) ++ ByteArray.mk #[32] ++ printB (gate (Eye (xs.getD (↑s : Int).toNat 0)) (dLo (xs.getD (↑s : Int).toNat 0))) (gate (Eye (xs.getD (↑s : Int).toNat 0)) (dHi (xs.getD (↑s : Int).toNat 0)))] = linesT xs s_1 ∧ True) ∧
 (s_1 ≤ xs.length ∧ AllEye (List.take s_1 xs)) ∧ xs.length - s_1 < xs.length - s)
 False)))
 False)
 False)))
 False)
 False)
 ((linesT xs s).length = (linesT xs s).length ∧ linesT xs s = tabL xs ∧ Value.int IntKind.i64 0 = Value.int IntKind.i64 (tabE xs) ∧ True))) := by kernel_rfl
theorem vc_awake (tL : List Int → List ByteArray) (tE : List Int → Int) : rcallsX Tryd.prog (ΓAw tL tE) (fun _ => []) 9 [] [oneV (.bool true)] = (
 True ∧
 True ∧
 True ∧
 ((∀ (x : Int), List.Mem x [1000] → I64 x) ∧ 1 ≤ 9223372036854775807) ∧
 bcase (tE [1000] == 0) (0 + (tL [1000]).length ≤ (tL [1000]).length ∧ ∀ (z : List ByteArray), z = List.take (tL [1000]).length (tL [1000]) → (z.length ≤ 9223372036854775807 ∧ 1 ≤ 9223372036854775807) ∧ Value.bool (decide (z = [ByteArray.mk #[49, 48, 48, 48, 32, 48, 45, 48, 53, 46, 54]])) = Value.bool true ∧ True) (Value.bool false = Value.bool true ∧ True)) := by kernel_rfl
theorem vc_dips (e d : Int) : rcallsX Tryd.prog (ΓLw) (fun _ => []) 3 [oneV (num e), oneV (num d)] [oneV (.bool true)] = (
 True ∧
 True ∧
 True ∧
 True ∧
 True ∧
 bcase (gate (Eye e) (dLo e) == gate (Eye e) (dLo e) && (gate (Eye e) (dHi e) == gate (Eye e) (dHi e) && true))
 (bcase (pick (Eye e) 0 2 == pick (Eye e) 0 2) (bcase (gate (okS e d) (sLo e d) == gate (okS e d) (sLo e d) && (gate (okS e d) (sHi e d) == gate (okS e d) (sHi e d) && true)) (Value.bool (pick (okS e d) 0 2 == pick (okS e d) 0 2) = Value.bool true ∧ True) (Value.bool false = Value.bool true ∧ True)) (Value.bool false = Value.bool true ∧ True)) (Value.bool false = Value.bool true ∧ True)) := by kernel_rfl
theorem vc_dist (e d : Int) : rcallsX Tryd.prog (ΓLw) (fun _ => []) 7 [oneV (num e), oneV (num d)] [oneV (.bool true)] = (
 True ∧
 True ∧
 True ∧
 True ∧
 True ∧
 bcase (gate (Hgt d) (hLo d) == gate (Hgt d) (hLo d) && (gate (Hgt d) (hHi d) == gate (Hgt d) (hHi d) && true))
 (bcase (pick (Hgt d) 0 2 == pick (Hgt d) 0 2) (bcase (gate (okV e d) (hLo e + hLo d) == gate (okV e d) (hLo e + hLo d) && (gate (okV e d) (hHi e + hHi d) == gate (okV e d) (hHi e + hHi d) && true)) (Value.bool (pick (okV e d) 0 2 == pick (okV e d) 0 2) = Value.bool true ∧ True) (Value.bool false = Value.bool true ∧ True)) (Value.bool false = Value.bool true ∧ True))
 (Value.bool false = Value.bool true ∧ True)) := by kernel_rfl
theorem vc_tables (xs : List Int) : rcallsX Tryd.prog (ΓLw) (fun _ => []) 4 [.one (iR xs)] [oneV (.bool true)] = (
 True ∧
 bcase (decide ((↑xs.length : Int) > 40))
 (bcase (decide ((↑xs.length : Int) ≤ 1000)) (Value.bool true = Value.bool true ∧ True)
 (bcase (decide ((↑xs.length : Int) > 1100)) (Value.bool true = Value.bool true ∧ True)
 (0 + xs.length ≤ xs.length ∧
 ∀ (z : List Int),
 z = List.take xs.length xs →
 ((∀ (x : Int), List.Mem x z → I64 x) ∧ z.length ≤ 9223372036854775807) ∧
 0 + xs.length ≤ xs.length ∧
 ∀ (z_1 : List Int),
 z_1 = List.take xs.length xs →
 ((∀ (x : Int), List.Mem x z_1 → I64 x) ∧ z_1.length ≤ 9223372036854775807) ∧
 0 + (tabL z).length ≤ (tabL z).length ∧
 ∀ (z_2 : List ByteArray), z_2 = List.take (tabL z).length (tabL z) → 0 + (tabL z_1).length ≤ (tabL z_1).length ∧ ∀ (z_3 : List ByteArray), z_3 = List.take (tabL z_1).length (tabL z_1) → (z_2.length ≤ 9223372036854775807 ∧ z_3.length ≤ 9223372036854775807) ∧ bcase (decide (z_2 = z_3)) (Value.bool (tabE z == tabE z_1) = Value.bool true ∧ True) (Value.bool false = Value.bool true ∧ True))))
 (bcase (decide ((↑xs.length : Int) > 1100)) (Value.bool true = Value.bool true ∧ True)
 (0 + xs.length ≤ xs.length ∧
 ∀ (z : List Int),
 z = List.take xs.length xs →
 ((∀ (x : Int), List.Mem x z → I64 x) ∧ z.length ≤ 9223372036854775807) ∧
 0 + xs.length ≤ xs.length ∧
 ∀ (z_1 : List Int),
 z_1 = List.take xs.length xs →
 ((∀ (x : Int), List.Mem x z_1 → I64 x) ∧ z_1.length ≤ 9223372036854775807) ∧
 0 + (tabL z).length ≤ (tabL z).length ∧
 ∀ (z_2 : List ByteArray), z_2 = List.take (tabL z).length (tabL z) → 0 + (tabL z_1).length ≤ (tabL z_1).length ∧ ∀ (z_3 : List ByteArray), z_3 = List.take (tabL z_1).length (tabL z_1) → (z_2.length ≤ 9223372036854775807 ∧ z_3.length ≤ 9223372036854775807) ∧ bcase (decide (z_2 = z_3)) (Value.bool (tabE z == tabE z_1) = Value.bool true ∧ True) (Value.bool false = Value.bool true ∧ True)))) := by kernel_rfl
theorem vc_lines (xs : List Int) : rcallsX Tryd.prog (ΓLw) (ALn xs) 6 [.one (.r 41 (.int .u16) xs)] [oneV (.bool true)] = (
 True ∧
 bcase (decide ((↑xs.length : Int) > 40)) (Value.bool true = Value.bool true ∧ True)
 (∃ (s : Nat),
 (xs.length = xs.length ∧ (eyesT xs s).length = 0 ∧ xs.length = xs.length ∧ (↑xs.length : Int) = (↑xs.length : Int) ∧ 0 = (↑s : Int) ∧ xs = xs ∧ eyesT xs s = [] ∧ True) ∧
 s.le xs.length ∧
 ∀ (s : Nat),
 s.le xs.length →
 bcase (decide ((↑s : Int) < (↑xs.length : Int)))
 (bcase (inB (↑s : Int) xs.length)
 (bcase ((↑s : Int).toNat.blt xs.length)
 ((eyesT xs s).length = (eyesT xs s).length ∧
 bcase (capOk ((eyesT xs s).length + 1) 8)
 (∃ (s_1 : Nat), (xs.length = xs.length ∧ (eyesT xs s).length + 1 = (eyesT xs s_1).length ∧ (eyesT xs s).length + 1 ≠ 0 ∧ xs.length = xs.length ∧ (↑xs.length : Int) = (↑xs.length : Int) ∧ IntKind.i64.wrap ((↑s : Int) + 1) = (↑s_1 : Int) ∧ xs = xs ∧ eyesT xs s ++ [(IntKind.i64.wrap (xs.getD (↑s : Int).toNat 0)).tmod 10001] = eyesT xs s_1 ∧ True) ∧ s_1.le xs.length ∧ xs.length - s_1 < xs.length - s)
 False)
 False)
 False)
 ((eyesT xs s).length = (eyesT xs s).length ∧
 ∀ (z : List Int),
 z = eyesT xs s →
 ((∀ (x : Int), List.Mem x z → I64 x) ∧ z.length ≤ 9223372036854775807) ∧
 bcase (tabE z != 0) (Value.bool false = Value.bool true ∧ True)
 (bcase ((↑(tabL z).length : Int) != (↑(eyesT xs s).length : Int)) (Value.bool false = Value.bool true ∧ True)
 (∃ (s_1 : Nat),
 ((eyesT xs s).length = (eyesT xs s).length ∧ (tabL z).length = (tabL z).length ∧ (eyesT xs s).length = (eyesT xs s).length ∧ (↑(eyesT xs s).length : Int) = (↑(eyesT xs s).length : Int) ∧ 0 = (↑s_1 : Int) ∧ xs = xs ∧ eyesT xs s = eyesT xs s ∧ tabL z = tabL z ∧ True) ∧
 s_1.le xs.length ∧
 ∀ (s_2 : Nat),
 s_2.le xs.length →
 bcase (decide ((↑s_2 : Int) < (↑(eyesT xs s).length : Int)))
 (bcase (inB (↑s_2 : Int) (eyesT xs s).length)
 (bcase ((↑s_2 : Int).toNat.blt (eyesT xs s).length)
 (True ∧
 True ∧
 bcase (pick (Eye ((eyesT xs s).getD (↑s_2 : Int).toNat 0)) 0 2 != 0) (Value.bool false = Value.bool true ∧ True)
 (bcase
 (pick (Val (gate (Eye ((eyesT xs s).getD (↑s_2 : Int).toNat 0)) (dLo ((eyesT xs s).getD (↑s_2 : Int).toNat 0))) (gate (Eye ((eyesT xs s).getD (↑s_2 : Int).toNat 0)) (dHi ((eyesT xs s).getD (↑s_2 : Int).toNat 0))))
 (pick (Fit (rnd (gate (Eye ((eyesT xs s).getD (↑s_2 : Int).toNat 0)) (dLo ((eyesT xs s).getD (↑s_2 : Int).toNat 0)))) ∧ Fit (rnd (gate (Eye ((eyesT xs s).getD (↑s_2 : Int).toNat 0)) (dHi ((eyesT xs s).getD (↑s_2 : Int).toNat 0))))) 0 5) 1 !=
 0)
 (Value.bool false = Value.bool true ∧ True)
 (bcase (inB (↑s_2 : Int) (tabL z).length)
 (bcase ((↑s_2 : Int).toNat.blt (tabL z).length)
 (I64 ((eyesT xs s).getD (↑s_2 : Int).toNat 0) ∧
 bcase (tooLong (itoaB ((eyesT xs s).getD (↑s_2 : Int).toNat 0)) (ByteArray.mk #[32])) False
 (bcase (tooLong (itoaB ((eyesT xs s).getD (↑s_2 : Int).toNat 0) ++ ByteArray.mk #[32]) (printB (gate (Eye ((eyesT xs s).getD (↑s_2 : Int).toNat 0)) (dLo ((eyesT xs s).getD (↑s_2 : Int).toNat 0))) (gate (Eye ((eyesT xs s).getD (↑s_2 : Int).toNat 0)) (dHi ((eyesT xs s).getD (↑s_2 : Int).toNat 0))))) False
 (bcase (!ByteArray.toList ((tabL z).getD (↑s_2 : Int).toNat (ByteArray.mk #[])) == (itoaB ((eyesT xs s).getD (↑s_2 : Int).toNat 0) ++ ByteArray.mk #[32] ++ printB (gate (Eye ((eyesT xs s).getD (↑s_2 : Int).toNat 0)) (dLo ((eyesT xs s).getD (↑s_2 : Int).toNat 0))) (gate (Eye ((eyesT xs s).getD (↑s_2 : Int).toNat 0)) (dHi ((eyesT xs s).getD (↑s_2 : Int).toNat 0)))).toList)
 (Value.bool false = Value.bool true ∧ True)
 (∃ (s_3 : Nat), ((eyesT xs s).length = (eyesT xs s).length ∧ (tabL z).length = (tabL z).length ∧ (eyesT xs s).length = (eyesT xs s).length ∧ (↑(eyesT xs s).length : Int) = (↑(eyesT xs s).length : Int) ∧ IntKind.i64.wrap ((↑s_2 : Int) + 1) = (↑s_3 : Int) ∧ xs = xs ∧ eyesT xs s = eyesT xs s ∧ tabL z = tabL z ∧ True) ∧ s_3.le xs.length ∧ xs.length - s_3 < xs.length - s_2))))
 False)
 False)))
 False)
 False)
 (Value.bool true = Value.bool true ∧ True)))))) := by kernel_rfl
theorem vc_roots (e m : Int) : rcallsX Tryd.prog (ΓLw) (fun _ => []) 8 [oneV (.int .u16 e), oneV (.int .u16 m)] [oneV (.bool true)] = (
 True ∧
 True ∧
 True ∧
 True ∧
 True ∧
 bcase (pick (Eye ((IntKind.i64.wrap e).tmod 10001)) 0 2 != 0) (Value.bool false = Value.bool true ∧ True)
 (bcase (pick (Eye (if IntKind.i64.wrap ((IntKind.i64.wrap e).tmod 10001 + IntKind.i64.wrap m) < 10000 then IntKind.i64.wrap ((IntKind.i64.wrap e).tmod 10001 + IntKind.i64.wrap m) else 10000)) 0 2 != 0) (Value.bool false = Value.bool true ∧ True)
 (bcase (pick (Hgt ((IntKind.i64.wrap e).tmod 10001)) 0 2 != 0) (Value.bool false = Value.bool true ∧ True)
 (bcase (pick (Hgt (if IntKind.i64.wrap ((IntKind.i64.wrap e).tmod 10001 + IntKind.i64.wrap m) < 10000 then IntKind.i64.wrap ((IntKind.i64.wrap e).tmod 10001 + IntKind.i64.wrap m) else 10000)) 0 2 != 0) (Value.bool false = Value.bool true ∧ True)
 (bcase (decide (gate (Eye ((IntKind.i64.wrap e).tmod 10001)) (dLo ((IntKind.i64.wrap e).tmod 10001)) > gate (Eye ((IntKind.i64.wrap e).tmod 10001)) (dHi ((IntKind.i64.wrap e).tmod 10001)))) (Value.bool false = Value.bool true ∧ True)
 (bcase (decide (gate (Eye ((IntKind.i64.wrap e).tmod 10001)) (dLo ((IntKind.i64.wrap e).tmod 10001)) < 0)) (Value.bool false = Value.bool true ∧ True)
 (bcase (decide (gate (Eye ((IntKind.i64.wrap e).tmod 10001)) (dHi ((IntKind.i64.wrap e).tmod 10001)) > 20000)) (Value.bool false = Value.bool true ∧ True)
 (bcase (decide (gate (Hgt ((IntKind.i64.wrap e).tmod 10001)) (hLo ((IntKind.i64.wrap e).tmod 10001)) > gate (Hgt ((IntKind.i64.wrap e).tmod 10001)) (hHi ((IntKind.i64.wrap e).tmod 10001)))) (Value.bool false = Value.bool true ∧ True)
 (bcase (decide (gate (Hgt ((IntKind.i64.wrap e).tmod 10001)) (hLo ((IntKind.i64.wrap e).tmod 10001)) < 0)) (Value.bool false = Value.bool true ∧ True)
 (bcase (decide (gate (Hgt ((IntKind.i64.wrap e).tmod 10001)) (hHi ((IntKind.i64.wrap e).tmod 10001)) > 30000)) (Value.bool false = Value.bool true ∧ True)
 (bcase (decide (IntKind.i64.wrap (gate (Eye ((IntKind.i64.wrap e).tmod 10001)) (dLo ((IntKind.i64.wrap e).tmod 10001)) * gate (Eye ((IntKind.i64.wrap e).tmod 10001)) (dLo ((IntKind.i64.wrap e).tmod 10001))) > IntKind.i64.wrap (30976 * (IntKind.i64.wrap e).tmod 10001))) (Value.bool false = Value.bool true ∧ True)
 (bcase (decide (IntKind.i64.wrap (gate (Eye ((IntKind.i64.wrap e).tmod 10001)) (dHi ((IntKind.i64.wrap e).tmod 10001)) * gate (Eye ((IntKind.i64.wrap e).tmod 10001)) (dHi ((IntKind.i64.wrap e).tmod 10001))) < IntKind.i64.wrap (30976 * (IntKind.i64.wrap e).tmod 10001))) (Value.bool false = Value.bool true ∧ True)
 (bcase (decide (IntKind.i64.wrap (gate (Eye ((IntKind.i64.wrap e).tmod 10001)) (dHi ((IntKind.i64.wrap e).tmod 10001)) - gate (Eye ((IntKind.i64.wrap e).tmod 10001)) (dLo ((IntKind.i64.wrap e).tmod 10001))) > 1)) (Value.bool false = Value.bool true ∧ True)
 (bcase (decide (IntKind.i64.wrap (gate (Hgt ((IntKind.i64.wrap e).tmod 10001)) (hLo ((IntKind.i64.wrap e).tmod 10001)) * gate (Hgt ((IntKind.i64.wrap e).tmod 10001)) (hLo ((IntKind.i64.wrap e).tmod 10001))) > IntKind.i64.wrap (43264 * (IntKind.i64.wrap e).tmod 10001))) (Value.bool false = Value.bool true ∧ True)
 (bcase (decide (IntKind.i64.wrap (gate (Hgt ((IntKind.i64.wrap e).tmod 10001)) (hHi ((IntKind.i64.wrap e).tmod 10001)) * gate (Hgt ((IntKind.i64.wrap e).tmod 10001)) (hHi ((IntKind.i64.wrap e).tmod 10001))) < IntKind.i64.wrap (43264 * (IntKind.i64.wrap e).tmod 10001))) (Value.bool false = Value.bool true ∧ True)
 (bcase (decide (IntKind.i64.wrap (gate (Hgt ((IntKind.i64.wrap e).tmod 10001)) (hHi ((IntKind.i64.wrap e).tmod 10001)) - gate (Hgt ((IntKind.i64.wrap e).tmod 10001)) (hLo ((IntKind.i64.wrap e).tmod 10001))) > 1)) (Value.bool false = Value.bool true ∧ True)
 (bcase
 (decide
 (gate (Eye (if IntKind.i64.wrap ((IntKind.i64.wrap e).tmod 10001 + IntKind.i64.wrap m) < 10000 then IntKind.i64.wrap ((IntKind.i64.wrap e).tmod 10001 + IntKind.i64.wrap m) else 10000)) (dLo (if IntKind.i64.wrap ((IntKind.i64.wrap e).tmod 10001 + IntKind.i64.wrap m) < 10000 then IntKind.i64.wrap ((IntKind.i64.wrap e).tmod 10001 + IntKind.i64.wrap m) else 10000)) <
 gate (Eye ((IntKind.i64.wrap e).tmod 10001)) (dLo ((IntKind.i64.wrap e).tmod 10001))))
 (Value.bool false = Value.bool true ∧ True)
 (bcase
 (decide
 (gate (Eye (if IntKind.i64.wrap ((IntKind.i64.wrap e).tmod 10001 + IntKind.i64.wrap m) < 10000 then IntKind.i64.wrap ((IntKind.i64.wrap e).tmod 10001 + IntKind.i64.wrap m) else 10000)) (dHi (if IntKind.i64.wrap ((IntKind.i64.wrap e).tmod 10001 + IntKind.i64.wrap m) < 10000 then IntKind.i64.wrap ((IntKind.i64.wrap e).tmod 10001 + IntKind.i64.wrap m) else 10000)) <
 gate (Eye ((IntKind.i64.wrap e).tmod 10001)) (dHi ((IntKind.i64.wrap e).tmod 10001))))
 (Value.bool false = Value.bool true ∧ True)
 (bcase
 (decide
 (gate (Hgt (if IntKind.i64.wrap ((IntKind.i64.wrap e).tmod 10001 + IntKind.i64.wrap m) < 10000 then IntKind.i64.wrap ((IntKind.i64.wrap e).tmod 10001 + IntKind.i64.wrap m) else 10000)) (hLo (if IntKind.i64.wrap ((IntKind.i64.wrap e).tmod 10001 + IntKind.i64.wrap m) < 10000 then IntKind.i64.wrap ((IntKind.i64.wrap e).tmod 10001 + IntKind.i64.wrap m) else 10000)) <
 gate (Hgt ((IntKind.i64.wrap e).tmod 10001)) (hLo ((IntKind.i64.wrap e).tmod 10001))))
 (Value.bool false = Value.bool true ∧ True)
 (bcase
 (decide
 (gate (Hgt (if IntKind.i64.wrap ((IntKind.i64.wrap e).tmod 10001 + IntKind.i64.wrap m) < 10000 then IntKind.i64.wrap ((IntKind.i64.wrap e).tmod 10001 + IntKind.i64.wrap m) else 10000)) (hHi (if IntKind.i64.wrap ((IntKind.i64.wrap e).tmod 10001 + IntKind.i64.wrap m) < 10000 then IntKind.i64.wrap ((IntKind.i64.wrap e).tmod 10001 + IntKind.i64.wrap m) else 10000)) <
 gate (Hgt ((IntKind.i64.wrap e).tmod 10001)) (hHi ((IntKind.i64.wrap e).tmod 10001))))
 (Value.bool false = Value.bool true ∧ True)
 (bcase (decide (IntKind.i64.wrap (4 * (IntKind.i64.wrap e).tmod 10001) > 10000)) (Value.bool true = Value.bool true ∧ True)
 (True ∧
 bcase (pick (Eye (IntKind.i64.wrap (4 * (IntKind.i64.wrap e).tmod 10001))) 0 2 == 0)
 (bcase (decide (gate (Eye (IntKind.i64.wrap (4 * (IntKind.i64.wrap e).tmod 10001))) (dLo (IntKind.i64.wrap (4 * (IntKind.i64.wrap e).tmod 10001))) ≥ IntKind.i64.wrap (2 * gate (Eye ((IntKind.i64.wrap e).tmod 10001)) (dLo ((IntKind.i64.wrap e).tmod 10001)))))
 (Value.bool (decide (gate (Eye (IntKind.i64.wrap (4 * (IntKind.i64.wrap e).tmod 10001))) (dHi (IntKind.i64.wrap (4 * (IntKind.i64.wrap e).tmod 10001))) ≤ IntKind.i64.wrap (2 * gate (Eye ((IntKind.i64.wrap e).tmod 10001)) (dHi ((IntKind.i64.wrap e).tmod 10001))))) = Value.bool true ∧ True) (Value.bool false = Value.bool true ∧ True))
 (Value.bool false = Value.bool true ∧ True))))))))))))))))))))))) := by kernel_rfl
theorem vc_short (e m d : Int) : rcallsX Tryd.prog (ΓLw) (fun _ => []) 5 [oneV (.int .u16 e), oneV (.int .u16 m), oneV (.int .u32 d)] [oneV (.bool true)] = (
 True ∧
 True ∧
 True ∧
 bcase (pick (okS ((IntKind.i64.wrap e).tmod 10001) (IntKind.i64.wrap (1 + (IntKind.i64.wrap d).tmod 100000))) 0 2 != 0) (Value.bool false = Value.bool true ∧ True)
 (bcase (pick (okS (if IntKind.i64.wrap ((IntKind.i64.wrap e).tmod 10001 + IntKind.i64.wrap m) < 10000 then IntKind.i64.wrap ((IntKind.i64.wrap e).tmod 10001 + IntKind.i64.wrap m) else 10000) (IntKind.i64.wrap (1 + (IntKind.i64.wrap d).tmod 100000))) 0 2 != 0) (Value.bool false = Value.bool true ∧ True)
 (bcase (decide (gate (okS ((IntKind.i64.wrap e).tmod 10001) (IntKind.i64.wrap (1 + (IntKind.i64.wrap d).tmod 100000))) (sLo ((IntKind.i64.wrap e).tmod 10001) (IntKind.i64.wrap (1 + (IntKind.i64.wrap d).tmod 100000))) < 0)) (Value.bool false = Value.bool true ∧ True)
 (bcase
 (decide
 (gate (okS ((IntKind.i64.wrap e).tmod 10001) (IntKind.i64.wrap (1 + (IntKind.i64.wrap d).tmod 100000))) (sHi ((IntKind.i64.wrap e).tmod 10001) (IntKind.i64.wrap (1 + (IntKind.i64.wrap d).tmod 100000))) <
 gate (okS ((IntKind.i64.wrap e).tmod 10001) (IntKind.i64.wrap (1 + (IntKind.i64.wrap d).tmod 100000))) (sLo ((IntKind.i64.wrap e).tmod 10001) (IntKind.i64.wrap (1 + (IntKind.i64.wrap d).tmod 100000)))))
 (Value.bool false = Value.bool true ∧ True)
 (bcase (decide (gate (okS ((IntKind.i64.wrap e).tmod 10001) (IntKind.i64.wrap (1 + (IntKind.i64.wrap d).tmod 100000))) (sHi ((IntKind.i64.wrap e).tmod 10001) (IntKind.i64.wrap (1 + (IntKind.i64.wrap d).tmod 100000))) > 536870912)) (Value.bool false = Value.bool true ∧ True)
 (bcase
 (decide
 (IntKind.i64.wrap
 (gate (okS ((IntKind.i64.wrap e).tmod 10001) (IntKind.i64.wrap (1 + (IntKind.i64.wrap d).tmod 100000))) (sHi ((IntKind.i64.wrap e).tmod 10001) (IntKind.i64.wrap (1 + (IntKind.i64.wrap d).tmod 100000))) -
 gate (okS ((IntKind.i64.wrap e).tmod 10001) (IntKind.i64.wrap (1 + (IntKind.i64.wrap d).tmod 100000))) (sLo ((IntKind.i64.wrap e).tmod 10001) (IntKind.i64.wrap (1 + (IntKind.i64.wrap d).tmod 100000)))) >
 1))
 (Value.bool false = Value.bool true ∧ True)
 (bcase
 (decide
 (IntKind.i64.wrap
 (gate (okS ((IntKind.i64.wrap e).tmod 10001) (IntKind.i64.wrap (1 + (IntKind.i64.wrap d).tmod 100000))) (sHi ((IntKind.i64.wrap e).tmod 10001) (IntKind.i64.wrap (1 + (IntKind.i64.wrap d).tmod 100000))) *
 gate (okS ((IntKind.i64.wrap e).tmod 10001) (IntKind.i64.wrap (1 + (IntKind.i64.wrap d).tmod 100000))) (sHi ((IntKind.i64.wrap e).tmod 10001) (IntKind.i64.wrap (1 + (IntKind.i64.wrap d).tmod 100000)))) ≥
 IntKind.i64.wrap ((IntKind.i64.wrap (9797770000 * (IntKind.i64.wrap e).tmod 10001)).tdiv 317500)))
 (bcase
 (decide
 (gate (okS (if IntKind.i64.wrap ((IntKind.i64.wrap e).tmod 10001 + IntKind.i64.wrap m) < 10000 then IntKind.i64.wrap ((IntKind.i64.wrap e).tmod 10001 + IntKind.i64.wrap m) else 10000) (IntKind.i64.wrap (1 + (IntKind.i64.wrap d).tmod 100000)))
 (sLo (if IntKind.i64.wrap ((IntKind.i64.wrap e).tmod 10001 + IntKind.i64.wrap m) < 10000 then IntKind.i64.wrap ((IntKind.i64.wrap e).tmod 10001 + IntKind.i64.wrap m) else 10000) (IntKind.i64.wrap (1 + (IntKind.i64.wrap d).tmod 100000))) ≥
 gate (okS ((IntKind.i64.wrap e).tmod 10001) (IntKind.i64.wrap (1 + (IntKind.i64.wrap d).tmod 100000))) (sLo ((IntKind.i64.wrap e).tmod 10001) (IntKind.i64.wrap (1 + (IntKind.i64.wrap d).tmod 100000)))))
 (Value.bool
 (decide
 (gate (okS (if IntKind.i64.wrap ((IntKind.i64.wrap e).tmod 10001 + IntKind.i64.wrap m) < 10000 then IntKind.i64.wrap ((IntKind.i64.wrap e).tmod 10001 + IntKind.i64.wrap m) else 10000) (IntKind.i64.wrap (1 + (IntKind.i64.wrap d).tmod 100000)))
 (sHi (if IntKind.i64.wrap ((IntKind.i64.wrap e).tmod 10001 + IntKind.i64.wrap m) < 10000 then IntKind.i64.wrap ((IntKind.i64.wrap e).tmod 10001 + IntKind.i64.wrap m) else 10000) (IntKind.i64.wrap (1 + (IntKind.i64.wrap d).tmod 100000))) ≥
 gate (okS ((IntKind.i64.wrap e).tmod 10001) (IntKind.i64.wrap (1 + (IntKind.i64.wrap d).tmod 100000))) (sHi ((IntKind.i64.wrap e).tmod 10001) (IntKind.i64.wrap (1 + (IntKind.i64.wrap d).tmod 100000))))) =
 Value.bool true ∧
 True)
 (Value.bool false = Value.bool true ∧ True))
 (Value.bool false = Value.bool true ∧ True)))))))) := by kernel_rfl
end Go.Proofs.YtfcdcegamcjaiaaDoor
