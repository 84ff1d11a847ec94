/- What the tables of dip, of its reference and of its laws ask. -/
import Derived.Test.YtofnffcdbbiohaaGreatDoorDpSpecE
namespace Go.Proofs.YtofnffcdbbiohaaGreatDoor.Dp
open Go Go.Abs Go.RowKit
set_option linter.unusedVariables false
set_option linter.unusedSimpArgs false
theorem vc_eqS (xs ys : List ByteArray) : rcallsX Tryz.prog ([]) (AEqS xs ys) 11 [.one (bR xs), .one (bR ys)] [.one (.v (.bool (decide (xs = ys))))] = (
 bcase ((↑xs.length : Int) != (↑ys.length : Int)) (Value.bool false = Value.bool (decide (xs = ys)) ∧ True)
 (∃ (s : Nat),
 (xs.length = xs.length ∧ ys.length = ys.length ∧ (↑xs.length : Int) = (↑xs.length : Int) ∧ 0 = (↑s : Int) ∧ xs = xs ∧ ys = ys ∧ True) ∧
 (s ≤ xs.length ∧ xs.length = ys.length ∧ List.take s xs = List.take s ys) ∧
 ∀ (s : Nat),
 s ≤ xs.length ∧ xs.length = ys.length ∧ List.take s xs = List.take s ys →
 bcase (decide ((↑s : Int) < (↑xs.length : Int)))
 (bcase (inB (↑s : Int) xs.length)
 (bcase ((↑s : Int).toNat.blt xs.length)
 (bcase (inB (↑s : Int) ys.length)
 (bcase ((↑s : Int).toNat.blt ys.length)
 (bcase (!ByteArray.toList (xs.getD (↑s : Int).toNat (ByteArray.mk #[])) == ByteArray.toList (ys.getD (↑s : Int).toNat (ByteArray.mk #[]))) (Value.bool false = Value.bool (decide (xs = ys)) ∧ True)
 (∃ (s_1 : Nat), (xs.length = xs.length ∧ ys.length = ys.length ∧ (↑xs.length : Int) = (↑xs.length : Int) ∧ IntKind.i64.wrap ((↑s : Int) + 1) = (↑s_1 : Int) ∧ xs = xs ∧ ys = ys ∧ True) ∧ (s_1 ≤ xs.length ∧ xs.length = ys.length ∧ List.take s_1 xs = List.take s_1 ys) ∧ xs.length - s_1 < xs.length - s))
 False)
 False)
 False)
 False)
 (Value.bool true = Value.bool (decide (xs = ys)) ∧ True))) := by kernel_rfl
theorem vc_dtable (xs : List Int) : rcallsX Tryz.prog (ΓTb) (ATab xs) 10 [.one (iR xs)] [.one (bR (tabL xs)), .one (.v (num (tabE xs)))] = (
 bcase (decide ((↑xs.length : Int) > 1000)) ([] = tabL xs ∧ Value.int IntKind.i64 4 = Value.int IntKind.i64 (tabE xs) ∧ True)
 (∃ (s : Nat),
 (xs.length = xs.length ∧ (linesT xs s).length = 0 ∧ xs.length = xs.length ∧ (↑xs.length : Int) = (↑xs.length : Int) ∧ 0 = (↑s : Int) ∧ xs = xs ∧ linesT xs s = [] ∧ True) ∧
 (s ≤ xs.length ∧ AllEye (List.take s xs)) ∧
 ∀ (s : Nat),
 s ≤ xs.length ∧ AllEye (List.take s xs) →
 bcase (decide ((↑s : Int) < (↑xs.length : Int)))
 (bcase (inB (↑s : Int) xs.length)
 (bcase ((↑s : Int).toNat.blt xs.length)
 (True ∧
 bcase (pick (Eye (xs.getD (↑s : Int).toNat 0)) 0 2 != 0) ([] = tabL xs ∧ Value.int IntKind.i64 (pick (Eye (xs.getD (↑s : Int).toNat 0)) 0 2) = Value.int IntKind.i64 (tabE xs) ∧ True)
 (True ∧
 bcase (pick (Val (gate (Eye (xs.getD (↑s : Int).toNat 0)) (dLo (xs.getD (↑s : Int).toNat 0))) (gate (Eye (xs.getD (↑s : Int).toNat 0)) (dHi (xs.getD (↑s : Int).toNat 0)))) (pick (Fit (rnd (gate (Eye (xs.getD (↑s : Int).toNat 0)) (dLo (xs.getD (↑s : Int).toNat 0)))) ∧ Fit (rnd (gate (Eye (xs.getD (↑s : Int).toNat 0)) (dHi (xs.getD (↑s : Int).toNat 0))))) 0 5) 1 != 0)
 ([] = tabL xs ∧
 Value.int IntKind.i64 (pick (Val (gate (Eye (xs.getD (↑s : Int).toNat 0)) (dLo (xs.getD (↑s : Int).toNat 0))) (gate (Eye (xs.getD (↑s : Int).toNat 0)) (dHi (xs.getD (↑s : Int).toNat 0)))) (pick (Fit (rnd (gate (Eye (xs.getD (↑s : Int).toNat 0)) (dLo (xs.getD (↑s : Int).toNat 0)))) ∧ Fit (rnd (gate (Eye (xs.getD (↑s : Int).toNat 0)) (dHi (xs.getD (↑s : Int).toNat 0))))) 0 5) 1) =
 Value.int IntKind.i64 (tabE xs) ∧
 True)
 (I64 (xs.getD (↑s : Int).toNat 0) ∧
 bcase (tooLong (itoaB (xs.getD (↑s : Int).toNat 0)) (ByteArray.mk #[32])) False
 (bcase (tooLong (itoaB (xs.getD (↑s : Int).toNat 0) ++ ByteArray.mk #[32]) (printB (gate (Eye (xs.getD (↑s : Int).toNat 0)) (dLo (xs.getD (↑s : Int).toNat 0))) (gate (Eye (xs.getD (↑s : Int).toNat 0)) (dHi (xs.getD (↑s : Int).toNat 0))))) False
 ((linesT xs s).length = (linesT xs s).length ∧
 bcase (capOk ((linesT xs s).length + 1) 16)
 (∃ (s_1 : Nat),
 (xs.length = xs.length ∧
 (linesT xs s).length + 1 = (linesT xs s_1).length ∧
 (linesT xs s).length + 1 ≠ 0 ∧
 xs.length = xs.length ∧ (↑xs.length : Int) = (↑xs.length : Int) ∧ IntKind.i64.wrap ((↑s : Int) + 1) = (↑s_1 : Int) ∧ xs = xs ∧ linesT xs s ++ [itoaB (xs.getD (↑s : Int).toNat 0) ++ ByteArray.mk #[32] ++ printB (gate (Eye (xs.getD (↑s : Int).toNat 0)) (dLo (xs.getD (↑s : Int).toNat 0))) (gate (Eye (xs.getD (↑s : Int).toNat 0)) (dHi (xs.getD (↑s : Int).toNat 0)))] = linesT xs s_1 ∧ True) ∧
 (s_1 ≤ xs.length ∧ AllEye (List.take s_1 xs)) ∧ xs.length - s_1 < xs.length - s)
 False)))))
 False)
 False)
 ((linesT xs s).length = (linesT xs s).length ∧ linesT xs s = tabL xs ∧ Value.int IntKind.i64 0 = Value.int IntKind.i64 (tabE xs) ∧ True))) := by kernel_rfl
theorem vc_awake (tL : List Int → List ByteArray) (tE : List Int → Int) : rcallsX Tryz.prog (ΓAw tL tE) (fun _ => []) 4 [] [oneV (.bool true)] = (
 True ∧
 True ∧
 True ∧
 ((∀ (x : Int), List.Mem x [1000] → I64 x) ∧ 1 ≤ 9223372036854775807) ∧
 bcase (tE [1000] == 0) (0 + (tL [1000]).length ≤ (tL [1000]).length ∧ ∀ (z : List ByteArray), z = List.take (tL [1000]).length (tL [1000]) → (z.length ≤ 9223372036854775807 ∧ 1 ≤ 9223372036854775807) ∧ Value.bool (decide (z = [ByteArray.mk #[49, 48, 48, 48, 32, 48, 45, 48, 53, 46, 54]])) = Value.bool true ∧ True) (Value.bool false = Value.bool true ∧ True)) := by kernel_rfl
end Go.Proofs.YtofnffcdbbiohaaGreatDoor.Dp
