/- What the two laws of texts of instruments ask. -/
import Derived.Test.YtkcelhhhbbpbpaaDoorInLS
namespace Go.Proofs.YtkcelhhhbbpbpaaDoor
open Go Go.Abs Go.RowKit
set_option linter.unusedVariables false
set_option linter.unusedSimpArgs false
theorem vc_lawTexts (k : Int) (xs : List (Int × Int)) (s : ByteArray) (it : Int → List (Int × Int) → ByteArray) (te : Int → List (Int × Int) → Int) (vd : Int → List (Int × Int) → Bool) (px : ByteArray → Int) (py : ByteArray → List (Int × Int)) (pn pc pe : ByteArray → Int) (sm : Int → List (Int × Int) → Int → List (Int × Int) → Bool) : rcallsX Tryd.prog (ΓLw it te vd px py pn pc pe sm) (noAnn) 3 [insA k xs, .one (.v (.string s))] [.one (.v (.bool true))] = (
 True ∧
 bcase (!decide ((↑xs.length : Int) ≤ 60)) (Value.bool true = Value.bool true ∧ True)
 (bcase (decide ((↑s.size : Int) > 3000)) (Value.bool true = Value.bool true ∧ True)
 (0 + xs.length ≤ xs.length ∧
 ∀ (z : List (Int × Int)),
 z = List.take xs.length xs →
 True ∧
 0 + xs.length ≤ xs.length ∧
 ∀ (z_1 : List (Int × Int)),
 z_1 = List.take xs.length xs →
 True ∧
 bcase (!vd k z_1)
 (bcase (!(it k z).toList == []) (Value.bool false = Value.bool true ∧ True)
 (bcase (te k z != 1) (Value.bool false = Value.bool true ∧ True)
 (SL s ∧
 SL s ∧
 bcase (decide (pn s > 0))
 (0 + (py s).length ≤ (py s).length ∧
 ∀ (z : List (Int × Int)),
 z = List.take (py s).length (py s) → 0 + (py s).length ≤ (py s).length ∧ ∀ (z_2 : List (Int × Int)), z_2 = List.take (py s).length (py s) → z.length ≤ 1000000 ∧ bcase (sm (px s) z (px s) z_2) (bcase (pn s == pn s && (pc s == 1 && true)) (Value.bool (pe s == pe s) = Value.bool true ∧ True) (Value.bool false = Value.bool true ∧ True)) (Value.bool false = Value.bool true ∧ True))
 (0 + (py s).length ≤ (py s).length ∧
 ∀ (z : List (Int × Int)),
 z = List.take (py s).length (py s) → 0 + (py s).length ≤ (py s).length ∧ ∀ (z_2 : List (Int × Int)), z_2 = List.take (py s).length (py s) → z.length ≤ 1000000 ∧ bcase (sm (px s) z (px s) z_2) (bcase (pn s == 0 && (pc s == 0 && true)) (Value.bool (pe s == pe s) = Value.bool true ∧ True) (Value.bool false = Value.bool true ∧ True)) (Value.bool false = Value.bool true ∧ True)))))
 (0 + xs.length ≤ xs.length ∧
 ∀ (z_2 : List (Int × Int)),
 z_2 = List.take xs.length xs →
 vd k z_2 = true ∧
 bcase (!(it k z).toList == (it k z_2).toList) (Value.bool false = Value.bool true ∧ True)
 (bcase (te k z != 0) (Value.bool false = Value.bool true ∧ True)
 (SL s ∧
 SL s ∧
 bcase (decide (pn s > 0))
 (0 + (py s).length ≤ (py s).length ∧
 ∀ (z : List (Int × Int)),
 z = List.take (py s).length (py s) → 0 + (py s).length ≤ (py s).length ∧ ∀ (z_3 : List (Int × Int)), z_3 = List.take (py s).length (py s) → z.length ≤ 1000000 ∧ bcase (sm (px s) z (px s) z_3) (bcase (pn s == pn s && (pc s == 1 && true)) (Value.bool (pe s == pe s) = Value.bool true ∧ True) (Value.bool false = Value.bool true ∧ True)) (Value.bool false = Value.bool true ∧ True))
 (0 + (py s).length ≤ (py s).length ∧
 ∀ (z : List (Int × Int)),
 z = List.take (py s).length (py s) → 0 + (py s).length ≤ (py s).length ∧ ∀ (z_3 : List (Int × Int)), z_3 = List.take (py s).length (py s) → z.length ≤ 1000000 ∧ bcase (sm (px s) z (px s) z_3) (bcase (pn s == 0 && (pc s == 0 && true)) (Value.bool (pe s == pe s) = Value.bool true ∧ True) (Value.bool false = Value.bool true ∧ True)) (Value.bool false = Value.bool true ∧ True)))))))) := by kernel_rfl
theorem vc_lawBack (k : Int) (xs : List (Int × Int)) (s : ByteArray) (it : Int → List (Int × Int) → ByteArray) (te : Int → List (Int × Int) → Int) (vd : Int → List (Int × Int) → Bool) (px : ByteArray → Int) (py : ByteArray → List (Int × Int)) (pn pc pe : ByteArray → Int) (sm : Int → List (Int × Int) → Int → List (Int × Int) → Bool) : rcallsX Tryd.prog (ΓLw it te vd px py pn pc pe sm) (noAnn) 4 [insA k xs, .one (.v (.string s))] [.one (.v (.bool true))] = (
 True ∧
 bcase (!decide ((↑xs.length : Int) ≤ 60)) (Value.bool true = Value.bool true ∧ True)
 (bcase (decide ((↑s.size : Int) > 3000)) (Value.bool true = Value.bool true ∧ True)
 (SL s ∧
 bcase (pe s == 0)
 (0 + (py s).length ≤ (py s).length ∧
 ∀ (z : List (Int × Int)),
 z = List.take (py s).length (py s) →
 True ∧
 bcase (te (px s) z != 0) (Value.bool false = Value.bool true ∧ True)
 (bcase (!(it (px s) z).toList == s.toList) (Value.bool false = Value.bool true ∧ True)
 (0 + (py s).length ≤ (py s).length ∧
 ∀ (z : List (Int × Int)),
 z = List.take (py s).length (py s) →
 True ∧
 bcase (!vd (px s) z) (Value.bool false = Value.bool true ∧ True)
 (0 + xs.length ≤ xs.length ∧
 ∀ (z : List (Int × Int)),
 z = List.take xs.length xs →
 True ∧
 bcase (te k z != 0) (bcase ((it k z).toList == []) (0 + xs.length ≤ xs.length ∧ ∀ (z : List (Int × Int)), z = List.take xs.length xs → True ∧ (Value.bool !vd k z) = Value.bool true ∧ True) (Value.bool false = Value.bool true ∧ True))
 (SL (it k z) ∧
 bcase (pe (it k z) == 0)
 (bcase (pn (it k z) == 0 && (pc (it k z) == 0 && true)) (0 + (py (it k z)).length ≤ (py (it k z)).length ∧ ∀ (z_1 : List (Int × Int)), z_1 = List.take (py (it k z)).length (py (it k z)) → 0 + xs.length ≤ xs.length ∧ ∀ (z_2 : List (Int × Int)), z_2 = List.take xs.length xs → z_1.length ≤ 1000000 ∧ Value.bool (sm (px (it k z)) z_1 k z_2) = Value.bool true ∧ True)
 (Value.bool false = Value.bool true ∧ True))
 (Value.bool false = Value.bool true ∧ True))))))
 (0 + xs.length ≤ xs.length ∧
 ∀ (z : List (Int × Int)),
 z = List.take xs.length xs →
 True ∧
 bcase (te k z != 0) (bcase ((it k z).toList == []) (0 + xs.length ≤ xs.length ∧ ∀ (z : List (Int × Int)), z = List.take xs.length xs → True ∧ (Value.bool !vd k z) = Value.bool true ∧ True) (Value.bool false = Value.bool true ∧ True))
 (SL (it k z) ∧
 bcase (pe (it k z) == 0)
 (bcase (pn (it k z) == 0 && (pc (it k z) == 0 && true)) (0 + (py (it k z)).length ≤ (py (it k z)).length ∧ ∀ (z_1 : List (Int × Int)), z_1 = List.take (py (it k z)).length (py (it k z)) → 0 + xs.length ≤ xs.length ∧ ∀ (z_2 : List (Int × Int)), z_2 = List.take xs.length xs → z_1.length ≤ 1000000 ∧ Value.bool (sm (px (it k z)) z_1 k z_2) = Value.bool true ∧ True)
 (Value.bool false = Value.bool true ∧ True))
 (Value.bool false = Value.bool true ∧ True)))))) := by kernel_rfl
end Go.Proofs.YtkcelhhhbbpbpaaDoor
