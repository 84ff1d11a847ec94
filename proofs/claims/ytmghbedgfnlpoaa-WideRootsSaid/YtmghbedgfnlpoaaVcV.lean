/- What the laws ask that hold wide against its reference. -/
import Derived.Test.YtmghbedgfnlpoaaSpecU
namespace Go.Proofs.Ytmghbedgfnlpoaa
open Go Go.Abs Go.RowKit
set_option linter.unusedVariables false
set_option linter.unusedSimpArgs false
theorem vc_products (a b : Int) : rcallsX Try.prog (ΓLl) (fun _ => []) 3 [oneV (num a), oneV (num b)] [oneV (.bool true)] = (
 True ∧
 (I64 a ∧ I64 b) ∧
 I64 a ∧
 I64 b ∧
 0 + (dig a.natAbs).length ≤ (dig a.natAbs).length ∧
 ∀ (z : List Int),
 z = List.take (dig a.natAbs).length (dig a.natAbs) →
 0 + (dig b.natAbs).length ≤ (dig b.natAbs).length ∧
 ∀ (z_1 : List Int),
 z_1 = List.take (dig b.natAbs).length (dig b.natAbs) →
 (CanN z (decide (a < 0)) ∧ CanN z_1 (decide (b < 0)) ∧ PrOk z z_1) ∧
 0 + (dig (numV z (decide (a < 0)) * numV z_1 (decide (b < 0))).natAbs).length ≤ (dig (numV z (decide (a < 0)) * numV z_1 (decide (b < 0))).natAbs).length ∧
 ∀ (z_2 : List Int),
 z_2 = List.take (dig (numV z (decide (a < 0)) * numV z_1 (decide (b < 0))).natAbs).length (dig (numV z (decide (a < 0)) * numV z_1 (decide (b < 0))).natAbs) →
 CanN z_2 (decide (numV z (decide (a < 0)) * numV z_1 (decide (b < 0)) < 0)) ∧
 bcase
 (gate (F120 (a * b)) (hiO (a * b)) == gate (F120 (numV z_2 (decide (numV z (decide (a < 0)) * numV z_1 (decide (b < 0)) < 0)))) (hiO (numV z_2 (decide (numV z (decide (a < 0)) * numV z_1 (decide (b < 0)) < 0)))) &&
 (gate (F120 (a * b)) (loO (a * b)) == gate (F120 (numV z_2 (decide (numV z (decide (a < 0)) * numV z_1 (decide (b < 0)) < 0)))) (loO (numV z_2 (decide (numV z (decide (a < 0)) * numV z_1 (decide (b < 0)) < 0)))) && true))
 (Value.bool (pick (F120 (a * b)) 0 5 == pick (F120 (numV z_2 (decide (numV z (decide (a < 0)) * numV z_1 (decide (b < 0)) < 0)))) 0 5) = Value.bool true ∧ True) (Value.bool false = Value.bool true ∧ True)) := by kernel_rfl
theorem vc_quotients (h l b : Int) : rcallsX Try.prog (ΓLl) (fun _ => []) 4 [oneV (wid h l), oneV (num b)] [oneV (.bool true)] = (
 True ∧
 I64 b ∧
 I64 b ∧
 (I64 h ∧ I64 l) ∧
 bcase (!decide (WV h l))
 (bcase (gate (okQ h l b false) (quoI (val h l) b false) == 0)
 (bcase (pick (WV h l) (pick (b = 0) 16 (pick (I64 (quoI (val h l) b false)) 0 5)) 1 == 1) (bcase (gate (okQ h l b true) (quoI (val h l) b true) == 0) (Value.bool (pick (WV h l) (pick (b = 0) 16 (pick (I64 (quoI (val h l) b true)) 0 5)) 1 == 1) = Value.bool true ∧ True) (Value.bool false = Value.bool true ∧ True)) (Value.bool false = Value.bool true ∧ True))
 (Value.bool false = Value.bool true ∧ True))
 ((WV h l ∧ I64 b) ∧
 (WV h l ∧ I64 b) ∧
 bcase (gate (okQ h l b false) (quoI (val h l) b false) == gate (okQR (val h l) b false) (quoI (val h l) b false))
 (bcase (pick (WV h l) (pick (b = 0) 16 (pick (I64 (quoI (val h l) b false)) 0 5)) 1 == pick (b = 0) 16 (pick (I64 (quoI (val h l) b false)) 0 5))
 (bcase (gate (okQ h l b true) (quoI (val h l) b true) == gate (okQR (val h l) b true) (quoI (val h l) b true)) (Value.bool (pick (WV h l) (pick (b = 0) 16 (pick (I64 (quoI (val h l) b true)) 0 5)) 1 == pick (b = 0) 16 (pick (I64 (quoI (val h l) b true)) 0 5)) = Value.bool true ∧ True) (Value.bool false = Value.bool true ∧ True)) (Value.bool false = Value.bool true ∧ True))
 (Value.bool false = Value.bool true ∧ True))) := by kernel_rfl
theorem vc_roots (h l : Int) : rcallsX Try.prog (ΓLl) (fun _ => []) 5 [oneV (wid h l)] [oneV (.bool true)] = (
 True ∧
 True ∧
 (I64 h ∧ I64 l) ∧
 bcase (!decide (WV h l)) (bcase (gate (okR h l) (rootI 61 (val h l) 0) == 0) (Value.bool (pick (WV h l) (pick (0 ≤ h) 0 2) 1 == 1) = Value.bool true ∧ True) (Value.bool false = Value.bool true ∧ True))
 (WV h l ∧ bcase (gate (okR h l) (rootI 61 (val h l) 0) == gate (0 ≤ h) (rootI 61 (val h l) 0)) (Value.bool (pick (WV h l) (pick (0 ≤ h) 0 2) 1 == pick (0 ≤ h) 0 2) = Value.bool true ∧ True) (Value.bool false = Value.bool true ∧ True))) := by kernel_rfl
theorem vc_forms (h l n : Int) : rcallsX Try.prog (ΓLl) (fun _ => []) 7 [oneV (wid h l), oneV (num n)] [oneV (.bool true)] = (
 True ∧
 (I64 h ∧ I64 l) ∧
 True ∧
 bcase (!decide (WV h l) == decide (WV h l)) (Value.bool false = Value.bool true ∧ True)
 (I64 n ∧
 0 + (dig n.natAbs).length ≤ (dig n.natAbs).length ∧
 ∀ (z : List Int),
 z = List.take (dig n.natAbs).length (dig n.natAbs) →
 CanN z (decide (n < 0)) ∧
 I64 n ∧
 bcase (!(hiO n == gate (F120 (numV z (decide (n < 0)))) (hiO (numV z (decide (n < 0)))) && (loO n == gate (F120 (numV z (decide (n < 0)))) (loO (numV z (decide (n < 0)))) && true))) (Value.bool false = Value.bool true ∧ True)
 (True ∧
 bcase (!decide (WV h l)) (bcase (gate (okI h l) (val h l) == 0) (Value.bool (pick (WV h l) (pick (I64 (val h l)) 0 5) 1 == 1) = Value.bool true ∧ True) (Value.bool false = Value.bool true ∧ True))
 ((I64 h ∧ I64 l) ∧
 0 + (dig (val h l).natAbs).length ≤ (dig (val h l).natAbs).length ∧
 ∀ (z : List Int),
 z = List.take (dig (val h l).natAbs).length (dig (val h l).natAbs) →
 CanN z (decide (val h l < 0)) ∧
 bcase (!decide (I64 (numV z (decide (val h l < 0))))) (bcase (gate (okI h l) (val h l) == 0) (Value.bool (pick (WV h l) (pick (I64 (val h l)) 0 5) 1 == 5) = Value.bool true ∧ True) (Value.bool false = Value.bool true ∧ True))
 (bcase (gate (okI h l) (val h l) == gate (I64 (numV z (decide (val h l < 0)))) (numV z (decide (val h l < 0)))) (Value.bool (pick (WV h l) (pick (I64 (val h l)) 0 5) 1 == 0) = Value.bool true ∧ True) (Value.bool false = Value.bool true ∧ True)))))) := by kernel_rfl
theorem vc_sums (a b c d : Int) : rcallsX Try.prog (ΓLl) (fun _ => []) 10 [oneV (wid a b), oneV (wid c d)] [oneV (.bool true)] = (
 True ∧
 True ∧
 True ∧
 True ∧
 (I64 a ∧ I64 b) ∧
 bcase (!decide (WV a b))
 (bcase (gate (ok2 a b c d (val a b + val c d)) (hiO (val a b + val c d)) == 0 && (gate (ok2 a b c d (val a b + val c d)) (loO (val a b + val c d)) == 0 && true))
 (bcase (pick (two a b c d) (pick (F120 (val a b + val c d)) 0 5) 1 == 1)
 (bcase (gate (ok2 a b c d (val a b - val c d)) (hiO (val a b - val c d)) == 0 && (gate (ok2 a b c d (val a b - val c d)) (loO (val a b - val c d)) == 0 && true))
 (bcase (pick (two a b c d) (pick (F120 (val a b - val c d)) 0 5) 1 == 1) (bcase (gate (two a b c d) (ordI (val a b) (val c d)) == 0) (Value.bool (pick (two a b c d) 0 1 == 1) = Value.bool true ∧ True) (Value.bool false = Value.bool true ∧ True)) (Value.bool false = Value.bool true ∧ True)) (Value.bool false = Value.bool true ∧ True))
 (Value.bool false = Value.bool true ∧ True))
 (Value.bool false = Value.bool true ∧ True))
 ((I64 c ∧ I64 d) ∧
 bcase (!decide (WV c d))
 (bcase (gate (ok2 a b c d (val a b + val c d)) (hiO (val a b + val c d)) == 0 && (gate (ok2 a b c d (val a b + val c d)) (loO (val a b + val c d)) == 0 && true))
 (bcase (pick (two a b c d) (pick (F120 (val a b + val c d)) 0 5) 1 == 1)
 (bcase (gate (ok2 a b c d (val a b - val c d)) (hiO (val a b - val c d)) == 0 && (gate (ok2 a b c d (val a b - val c d)) (loO (val a b - val c d)) == 0 && true))
 (bcase (pick (two a b c d) (pick (F120 (val a b - val c d)) 0 5) 1 == 1) (bcase (gate (two a b c d) (ordI (val a b) (val c d)) == 0) (Value.bool (pick (two a b c d) 0 1 == 1) = Value.bool true ∧ True) (Value.bool false = Value.bool true ∧ True)) (Value.bool false = Value.bool true ∧ True)) (Value.bool false = Value.bool true ∧ True))
 (Value.bool false = Value.bool true ∧ True))
 (Value.bool false = Value.bool true ∧ True))
 ((I64 a ∧ I64 b) ∧
 (I64 c ∧ I64 d) ∧
 0 + (dig (val a b).natAbs).length ≤ (dig (val a b).natAbs).length ∧
 ∀ (z : List Int),
 z = List.take (dig (val a b).natAbs).length (dig (val a b).natAbs) →
 0 + (dig (val c d).natAbs).length ≤ (dig (val c d).natAbs).length ∧
 ∀ (z_1 : List Int),
 z_1 = List.take (dig (val c d).natAbs).length (dig (val c d).natAbs) →
 (CanN z (decide (val a b < 0)) ∧ CanN z_1 (decide (val c d < 0))) ∧
 0 + (dig (numV z (decide (val a b < 0)) + numV z_1 (decide (val c d < 0))).natAbs).length ≤ (dig (numV z (decide (val a b < 0)) + numV z_1 (decide (val c d < 0))).natAbs).length ∧
 ∀ (z_2 : List Int),
 z_2 = List.take (dig (numV z (decide (val a b < 0)) + numV z_1 (decide (val c d < 0))).natAbs).length (dig (numV z (decide (val a b < 0)) + numV z_1 (decide (val c d < 0))).natAbs) →
 CanN z_2 (decide (numV z (decide (val a b < 0)) + numV z_1 (decide (val c d < 0)) < 0)) ∧
 0 + (dig (val c d).natAbs).length ≤ (dig (val c d).natAbs).length ∧
 ∀ (z_3 : List Int),
 z_3 = List.take (dig (val c d).natAbs).length (dig (val c d).natAbs) →
 Ytmghbedgfnlpoaa.Can z_3 ∧
 0 + (dig (val a b).natAbs).length ≤ (dig (val a b).natAbs).length ∧
 ∀ (z_4 : List Int),
 z_4 = List.take (dig (val a b).natAbs).length (dig (val a b).natAbs) →
 0 + (dig (val c d).natAbs).length ≤ (dig (val c d).natAbs).length ∧
 ∀ (z_5 : List Int),
 z_5 = List.take (dig (val c d).natAbs).length (dig (val c d).natAbs) →
 (CanN z_4 (decide (val a b < 0)) ∧ CanN z_5 (!decide ((↑z_3.length : Int) = 0) && !decide (val c d < 0))) ∧
 0 + (dig (numV z_4 (decide (val a b < 0)) + numV z_5 (!decide ((↑z_3.length : Int) = 0) && !decide (val c d < 0))).natAbs).length ≤ (dig (numV z_4 (decide (val a b < 0)) + numV z_5 (!decide ((↑z_3.length : Int) = 0) && !decide (val c d < 0))).natAbs).length ∧
 ∀ (z_6 : List Int),
 z_6 = List.take (dig (numV z_4 (decide (val a b < 0)) + numV z_5 (!decide ((↑z_3.length : Int) = 0) && !decide (val c d < 0))).natAbs).length (dig (numV z_4 (decide (val a b < 0)) + numV z_5 (!decide ((↑z_3.length : Int) = 0) && !decide (val c d < 0))).natAbs) →
 CanN z_6 (decide (numV z_4 (decide (val a b < 0)) + numV z_5 (!decide ((↑z_3.length : Int) = 0) && !decide (val c d < 0)) < 0)) ∧
 bcase
 (gate (ok2 a b c d (val a b + val c d)) (hiO (val a b + val c d)) == gate (F120 (numV z_2 (decide (numV z (decide (val a b < 0)) + numV z_1 (decide (val c d < 0)) < 0)))) (hiO (numV z_2 (decide (numV z (decide (val a b < 0)) + numV z_1 (decide (val c d < 0)) < 0)))) &&
 (gate (ok2 a b c d (val a b + val c d)) (loO (val a b + val c d)) == gate (F120 (numV z_2 (decide (numV z (decide (val a b < 0)) + numV z_1 (decide (val c d < 0)) < 0)))) (loO (numV z_2 (decide (numV z (decide (val a b < 0)) + numV z_1 (decide (val c d < 0)) < 0)))) && true))
 (bcase (pick (two a b c d) (pick (F120 (val a b + val c d)) 0 5) 1 == pick (F120 (numV z_2 (decide (numV z (decide (val a b < 0)) + numV z_1 (decide (val c d < 0)) < 0)))) 0 5)
 (bcase
 (gate (ok2 a b c d (val a b - val c d)) (hiO (val a b - val c d)) == gate (F120 (numV z_6 (decide (numV z_4 (decide (val a b < 0)) + numV z_5 (!decide ((↑z_3.length : Int) = 0) && !decide (val c d < 0)) < 0)))) (hiO (numV z_6 (decide (numV z_4 (decide (val a b < 0)) + numV z_5 (!decide ((↑z_3.length : Int) = 0) && !decide (val c d < 0)) < 0)))) &&
 (gate (ok2 a b c d (val a b - val c d)) (loO (val a b - val c d)) == gate (F120 (numV z_6 (decide (numV z_4 (decide (val a b < 0)) + numV z_5 (!decide ((↑z_3.length : Int) = 0) && !decide (val c d < 0)) < 0)))) (loO (numV z_6 (decide (numV z_4 (decide (val a b < 0)) + numV z_5 (!decide ((↑z_3.length : Int) = 0) && !decide (val c d < 0)) < 0)))) && true))
 (bcase (pick (two a b c d) (pick (F120 (val a b - val c d)) 0 5) 1 == pick (F120 (numV z_6 (decide (numV z_4 (decide (val a b < 0)) + numV z_5 (!decide ((↑z_3.length : Int) = 0) && !decide (val c d < 0)) < 0)))) 0 5)
 (0 + (dig (val a b).natAbs).length ≤ (dig (val a b).natAbs).length ∧
 ∀ (z : List Int),
 z = List.take (dig (val a b).natAbs).length (dig (val a b).natAbs) →
 0 + (dig (val c d).natAbs).length ≤ (dig (val c d).natAbs).length ∧
 ∀ (z_7 : List Int), z_7 = List.take (dig (val c d).natAbs).length (dig (val c d).natAbs) → (CanN z (decide (val a b < 0)) ∧ CanN z_7 (decide (val c d < 0))) ∧ bcase (gate (two a b c d) (ordI (val a b) (val c d)) == ordI (numV z (decide (val a b < 0))) (numV z_7 (decide (val c d < 0)))) (Value.bool (pick (two a b c d) 0 1 == 0) = Value.bool true ∧ True) (Value.bool false = Value.bool true ∧ True))
 (Value.bool false = Value.bool true ∧ True))
 (Value.bool false = Value.bool true ∧ True))
 (Value.bool false = Value.bool true ∧ True))
 (Value.bool false = Value.bool true ∧ True)))) := by kernel_rfl
end Go.Proofs.Ytmghbedgfnlpoaa
