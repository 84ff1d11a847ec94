/- A further entry: what the law asks. -/
import Derived.Test.YtdjlickmjfpokaaStrS
namespace Go.Proofs.Ytdjlickmjfpokaa
open Go Go.Abs Go.RowKit
set_option linter.unusedVariables false
set_option linter.unusedSimpArgs false
theorem vc_lawStraight (k : Int) (xs : List (Int × Int)) (hs n m : Int) (vd : Int → List (Int × Int) → Bool) (cl ch ce : Int → List (Int × Int) → Int → Int) (bp : List (Int × Int) → Int → Int) (bt : List (Int × Int) → Int → Bool) : rcallsX Try.prog (ΓSt vd cl ch ce bp bt) (noAnn) 8 [insA k xs, .one (.v (num hs)), .one (.v (num n)), .one (.v (.int .i16 m))] [.one (.v (.bool true))] = (
 True ∧
 bcase (decide ((↑xs.length : Int) > 39)) (Value.bool true = Value.bool true ∧ True)
 (0 + xs.length ≤ xs.length ∧
 ∀ (z : List (Int × Int)),
 z = List.take xs.length xs →
 True ∧
 bcase (!vd k z) (Value.bool true = Value.bool true ∧ True)
 (bcase (decide (n < 0)) (Value.bool true = Value.bool true ∧ True)
 (bcase (decide (n > 7800000)) (Value.bool true = Value.bool true ∧ True)
 (bcase (decide (hs < -60000)) (Value.bool true = Value.bool true ∧ True)
 (bcase (decide (hs > 7800000)) (Value.bool true = Value.bool true ∧ True)
 (0 + xs.length ≤ xs.length ∧
 ∀ (z : List (Int × Int)),
 z = List.take xs.length xs →
 True ∧
 0 + xs.length ≤ xs.length ∧
 ∀ (z_1 : List (Int × Int)),
 z_1 = List.take xs.length xs →
 True ∧
 bcase (ce k z hs != 0) (Value.bool false = Value.bool true ∧ True)
 (bcase (ce (if (if 60000 < IntKind.i64.wrap (k + IntKind.i64.wrap m) then 60000 else IntKind.i64.wrap (k + IntKind.i64.wrap m)) > -60000 then if 60000 < IntKind.i64.wrap (k + IntKind.i64.wrap m) then 60000 else IntKind.i64.wrap (k + IntKind.i64.wrap m) else -60000) z_1 hs != 0) (Value.bool false = Value.bool true ∧ True)
 (bcase
 (!(cl (if (if 60000 < IntKind.i64.wrap (k + IntKind.i64.wrap m) then 60000 else IntKind.i64.wrap (k + IntKind.i64.wrap m)) > -60000 then if 60000 < IntKind.i64.wrap (k + IntKind.i64.wrap m) then 60000 else IntKind.i64.wrap (k + IntKind.i64.wrap m) else -60000) z_1 hs ==
 IntKind.i64.wrap (cl k z hs + IntKind.i64.wrap ((if (if 60000 < IntKind.i64.wrap (k + IntKind.i64.wrap m) then 60000 else IntKind.i64.wrap (k + IntKind.i64.wrap m)) > -60000 then if 60000 < IntKind.i64.wrap (k + IntKind.i64.wrap m) then 60000 else IntKind.i64.wrap (k + IntKind.i64.wrap m) else -60000) - k)) &&
 (ch (if (if 60000 < IntKind.i64.wrap (k + IntKind.i64.wrap m) then 60000 else IntKind.i64.wrap (k + IntKind.i64.wrap m)) > -60000 then if 60000 < IntKind.i64.wrap (k + IntKind.i64.wrap m) then 60000 else IntKind.i64.wrap (k + IntKind.i64.wrap m) else -60000) z_1 hs ==
 IntKind.i64.wrap (ch k z hs + IntKind.i64.wrap ((if (if 60000 < IntKind.i64.wrap (k + IntKind.i64.wrap m) then 60000 else IntKind.i64.wrap (k + IntKind.i64.wrap m)) > -60000 then if 60000 < IntKind.i64.wrap (k + IntKind.i64.wrap m) then 60000 else IntKind.i64.wrap (k + IntKind.i64.wrap m) else -60000) - k)) &&
 true)))
 (Value.bool false = Value.bool true ∧ True)
 (0 + xs.length ≤ xs.length ∧
 ∀ (z_2 : List (Int × Int)),
 z_2 = List.take xs.length xs →
 True ∧
 bcase (ce k z_2 n != 0) (Value.bool (ce k z_2 n == 0) = Value.bool true ∧ True)
 (bcase (cl k z_2 n != ch k z_2 n) (Value.bool (ce k z_2 n == 0) = Value.bool true ∧ True)
 (0 + xs.length ≤ xs.length ∧
 ∀ (z_3 : List (Int × Int)),
 z_3 = List.take xs.length xs →
 BsfOk z_3 n 24 ∧
 bcase (bt z_3 n) (Value.bool true = Value.bool true ∧ True)
 (bcase ((↑xs.length : Int) == 0) (Value.bool true = Value.bool true ∧ True)
 (0 + xs.length ≤ xs.length ∧
 (List.take xs.length xs ≠ [] ∧ (List.take xs.length xs).length.le 1000) ∧
 xs.length = (List.take xs.length xs).length ∧
 InsOk (List.take xs.length xs) (bp z_3 n) ∧
 (insI (List.take xs.length xs) (bp z_3 n) (n, IntKind.i64.wrap (cl k z_2 n - k))).length = (insI (List.take xs.length xs) (bp z_3 n) (n, IntKind.i64.wrap (cl k z_2 n - k))).length ∧
 ∀ (z_4 : List (Int × Int)), z_4 = insI (List.take xs.length xs) (bp z_3 n) (n, IntKind.i64.wrap (cl k z_2 n - k)) → True ∧ bcase (ce k z_4 hs == 0) (Value.bool (cl k z_4 hs == cl k z hs && (ch k z_4 hs == ch k z hs && true)) = Value.bool true ∧ True) (Value.bool false = Value.bool true ∧ True))))))))))))))) := by kernel_rfl
end Go.Proofs.Ytdjlickmjfpokaa
