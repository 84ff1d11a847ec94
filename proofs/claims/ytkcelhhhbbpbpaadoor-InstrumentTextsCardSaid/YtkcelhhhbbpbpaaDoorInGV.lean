/- What the reference's reading of a text of an instrument asks. -/
import Derived.Test.YtkcelhhhbbpbpaaDoorInGS
namespace Go.Proofs.YtkcelhhhbbpbpaaDoor
open Go Go.Abs Go.RowKit
set_option linter.unusedVariables false
set_option linter.unusedSimpArgs false
theorem vc_rfParse (s : ByteArray) (L : List UInt8) (lx : ByteArray → Int → ByteArray) (lo : ByteArray → Int → Bool) (wd : ByteArray → ByteArray → ByteArray) (wo : ByteArray → ByteArray → Bool) (iv : ByteArray → Int) (io : ByteArray → Bool) (e1 e2 : ByteArray → Int) (eo : ByteArray → Bool) (vd : Int → List (Int × Int) → Bool) (rk : Int) (rt : List (Int × Int)) (rn re : Int) : rcallsX Tryd.prog (ΓRp lx lo wd wo iv io e1 e2 eo vd) (ARp L) 11 [.one (.v (.string s))] [insA rk rt, .one (.v (num rn)), .one (.v (num re))] = (
 ∃ (s_1 : Nat × Nat × Int × List (Int × Int)),
 (s = s ∧ Int.ofNat 0 = 0 ∧ Int.ofNat 0 = 0 ∧ 0 = (↑s_1.fst : Int) ∧ 0 = (↑s_1.snd.fst : Int) ∧ Int.ofNat 0 = 0 ∧ Value.slice none 0 0 = Value.slice none 0 0 ∧ 0 = s_1.snd.snd.fst ∧ s_1.snd.snd.snd.length = 0 ∧ s_1.snd.snd.snd = [] ∧ True) ∧
 RpI L s_1.fst s_1.snd.fst s_1.snd.snd.fst s_1.snd.snd.snd ∧
 ∀ (s_2 : Nat × Nat × Int × List (Int × Int)),
 RpI L s_2.fst s_2.snd.fst s_2.snd.snd.fst s_2.snd.snd.snd →
 bcase (decide ((↑s_2.snd.fst : Int) < (↑s.size : Int)))
 (LkOk s (↑s_2.snd.fst : Int) ∧
 bcase (!lo s (↑s_2.snd.fst : Int)) (Value.int IntKind.i64 0 = Value.int IntKind.i64 rk ∧ [] = rt ∧ Value.int IntKind.i64 (IntKind.i64.wrap ((↑s_2.fst : Int) + 1)) = Value.int IntKind.i64 rn ∧ Value.int IntKind.i64 7 = Value.int IntKind.i64 re ∧ True)
 (bcase (IntKind.i64.wrap ((↑s_2.fst : Int) + 1) == 1)
 (WdOk (lx s (↑s_2.snd.fst : Int)) (ByteArray.mk #[105, 110, 100, 101, 120]) ∧
 SL (wd (lx s (↑s_2.snd.fst : Int)) (ByteArray.mk #[105, 110, 100, 101, 120])) ∧
 bcase (!wo (lx s (↑s_2.snd.fst : Int)) (ByteArray.mk #[105, 110, 100, 101, 120])) (Value.int IntKind.i64 0 = Value.int IntKind.i64 rk ∧ [] = rt ∧ Value.int IntKind.i64 (IntKind.i64.wrap ((↑s_2.fst : Int) + 1)) = Value.int IntKind.i64 rn ∧ Value.int IntKind.i64 7 = Value.int IntKind.i64 re ∧ True)
 (bcase (!io (wd (lx s (↑s_2.snd.fst : Int)) (ByteArray.mk #[105, 110, 100, 101, 120]))) (Value.int IntKind.i64 0 = Value.int IntKind.i64 rk ∧ [] = rt ∧ Value.int IntKind.i64 (IntKind.i64.wrap ((↑s_2.fst : Int) + 1)) = Value.int IntKind.i64 rn ∧ Value.int IntKind.i64 7 = Value.int IntKind.i64 re ∧ True)
 (∃ (s_3 : Nat × Nat × Int × List (Int × Int)),
 (s = s ∧
 Int.ofNat 0 = 0 ∧
 Int.ofNat 0 = 0 ∧
 IntKind.i64.wrap ((↑s_2.fst : Int) + 1) = (↑s_3.fst : Int) ∧
 IntKind.i64.wrap (IntKind.i64.wrap ((↑s_2.snd.fst : Int) + (↑(lx s (↑s_2.snd.fst : Int)).size : Int)) + 1) = (↑s_3.snd.fst : Int) ∧ Int.ofNat 0 = 0 ∧ Value.slice none 0 0 = Value.slice none 0 0 ∧ iv (wd (lx s (↑s_2.snd.fst : Int)) (ByteArray.mk #[105, 110, 100, 101, 120])) = s_3.snd.snd.fst ∧ s_2.snd.snd.snd.length = s_3.snd.snd.snd.length ∧ s_2.snd.snd.snd = s_3.snd.snd.snd ∧ True) ∧
 RpI L s_3.fst s_3.snd.fst s_3.snd.snd.fst s_3.snd.snd.snd ∧ L.length + 1 - s_3.snd.fst < L.length + 1 - s_2.snd.fst)))
 (SL (lx s (↑s_2.snd.fst : Int)) ∧
 bcase (!eo (lx s (↑s_2.snd.fst : Int))) (Value.int IntKind.i64 0 = Value.int IntKind.i64 rk ∧ [] = rt ∧ Value.int IntKind.i64 (IntKind.i64.wrap ((↑s_2.fst : Int) + 1)) = Value.int IntKind.i64 rn ∧ Value.int IntKind.i64 7 = Value.int IntKind.i64 re ∧ True)
 (s_2.snd.snd.snd.length = s_2.snd.snd.snd.length ∧
 bcase (capOk (s_2.snd.snd.snd.length + 1) 16)
 (∃ (s_3 : Nat × Nat × Int × List (Int × Int)),
 (s = s ∧
 Int.ofNat 0 = 0 ∧
 Int.ofNat 0 = 0 ∧
 IntKind.i64.wrap ((↑s_2.fst : Int) + 1) = (↑s_3.fst : Int) ∧
 IntKind.i64.wrap (IntKind.i64.wrap ((↑s_2.snd.fst : Int) + (↑(lx s (↑s_2.snd.fst : Int)).size : Int)) + 1) = (↑s_3.snd.fst : Int) ∧
 Int.ofNat 0 = 0 ∧ Value.slice none 0 0 = Value.slice none 0 0 ∧ s_2.snd.snd.fst = s_3.snd.snd.fst ∧ s_2.snd.snd.snd.length + 1 = s_3.snd.snd.snd.length ∧ s_2.snd.snd.snd.length + 1 ≠ 0 ∧ s_2.snd.snd.snd ++ [(e1 (lx s (↑s_2.snd.fst : Int)), e2 (lx s (↑s_2.snd.fst : Int)))] = s_3.snd.snd.snd ∧ True) ∧
 RpI L s_3.fst s_3.snd.fst s_3.snd.snd.fst s_3.snd.snd.snd ∧ L.length + 1 - s_3.snd.fst < L.length + 1 - s_2.snd.fst)
 False))))
 (bcase ((↑s_2.fst : Int) == 0)
 (LkOk s (↑s_2.snd.fst : Int) ∧
 bcase (!lo s (↑s_2.snd.fst : Int)) (Value.int IntKind.i64 0 = Value.int IntKind.i64 rk ∧ [] = rt ∧ Value.int IntKind.i64 (IntKind.i64.wrap ((↑s_2.fst : Int) + 1)) = Value.int IntKind.i64 rn ∧ Value.int IntKind.i64 7 = Value.int IntKind.i64 re ∧ True)
 (bcase (IntKind.i64.wrap ((↑s_2.fst : Int) + 1) == 1)
 (WdOk (lx s (↑s_2.snd.fst : Int)) (ByteArray.mk #[105, 110, 100, 101, 120]) ∧
 SL (wd (lx s (↑s_2.snd.fst : Int)) (ByteArray.mk #[105, 110, 100, 101, 120])) ∧
 bcase (!wo (lx s (↑s_2.snd.fst : Int)) (ByteArray.mk #[105, 110, 100, 101, 120])) (Value.int IntKind.i64 0 = Value.int IntKind.i64 rk ∧ [] = rt ∧ Value.int IntKind.i64 (IntKind.i64.wrap ((↑s_2.fst : Int) + 1)) = Value.int IntKind.i64 rn ∧ Value.int IntKind.i64 7 = Value.int IntKind.i64 re ∧ True)
 (bcase (!io (wd (lx s (↑s_2.snd.fst : Int)) (ByteArray.mk #[105, 110, 100, 101, 120]))) (Value.int IntKind.i64 0 = Value.int IntKind.i64 rk ∧ [] = rt ∧ Value.int IntKind.i64 (IntKind.i64.wrap ((↑s_2.fst : Int) + 1)) = Value.int IntKind.i64 rn ∧ Value.int IntKind.i64 7 = Value.int IntKind.i64 re ∧ True)
 (∃ (s_3 : Nat × Nat × Int × List (Int × Int)),
 (s = s ∧
 Int.ofNat 0 = 0 ∧
 Int.ofNat 0 = 0 ∧
 IntKind.i64.wrap ((↑s_2.fst : Int) + 1) = (↑s_3.fst : Int) ∧
 IntKind.i64.wrap (IntKind.i64.wrap ((↑s_2.snd.fst : Int) + (↑(lx s (↑s_2.snd.fst : Int)).size : Int)) + 1) = (↑s_3.snd.fst : Int) ∧ Int.ofNat 0 = 0 ∧ Value.slice none 0 0 = Value.slice none 0 0 ∧ iv (wd (lx s (↑s_2.snd.fst : Int)) (ByteArray.mk #[105, 110, 100, 101, 120])) = s_3.snd.snd.fst ∧ s_2.snd.snd.snd.length = s_3.snd.snd.snd.length ∧ s_2.snd.snd.snd = s_3.snd.snd.snd ∧ True) ∧
 RpI L s_3.fst s_3.snd.fst s_3.snd.snd.fst s_3.snd.snd.snd ∧ L.length + 1 - s_3.snd.fst < L.length + 1 - s_2.snd.fst)))
 (SL (lx s (↑s_2.snd.fst : Int)) ∧
 bcase (!eo (lx s (↑s_2.snd.fst : Int))) (Value.int IntKind.i64 0 = Value.int IntKind.i64 rk ∧ [] = rt ∧ Value.int IntKind.i64 (IntKind.i64.wrap ((↑s_2.fst : Int) + 1)) = Value.int IntKind.i64 rn ∧ Value.int IntKind.i64 7 = Value.int IntKind.i64 re ∧ True)
 (s_2.snd.snd.snd.length = s_2.snd.snd.snd.length ∧
 bcase (capOk (s_2.snd.snd.snd.length + 1) 16)
 (∃ (s_3 : Nat × Nat × Int × List (Int × Int)),
 (s = s ∧
 Int.ofNat 0 = 0 ∧
 Int.ofNat 0 = 0 ∧
 IntKind.i64.wrap ((↑s_2.fst : Int) + 1) = (↑s_3.fst : Int) ∧
 IntKind.i64.wrap (IntKind.i64.wrap ((↑s_2.snd.fst : Int) + (↑(lx s (↑s_2.snd.fst : Int)).size : Int)) + 1) = (↑s_3.snd.fst : Int) ∧
 Int.ofNat 0 = 0 ∧ Value.slice none 0 0 = Value.slice none 0 0 ∧ s_2.snd.snd.fst = s_3.snd.snd.fst ∧ s_2.snd.snd.snd.length + 1 = s_3.snd.snd.snd.length ∧ s_2.snd.snd.snd.length + 1 ≠ 0 ∧ s_2.snd.snd.snd ++ [(e1 (lx s (↑s_2.snd.fst : Int)), e2 (lx s (↑s_2.snd.fst : Int)))] = s_3.snd.snd.snd ∧ True) ∧
 RpI L s_3.fst s_3.snd.fst s_3.snd.snd.fst s_3.snd.snd.snd ∧ L.length + 1 - s_3.snd.fst < L.length + 1 - s_2.snd.fst)
 False))))
 (s_2.snd.snd.snd.length = s_2.snd.snd.snd.length ∧
 ∀ (z : List (Int × Int)),
 z = s_2.snd.snd.snd →
 True ∧
 bcase (!vd s_2.snd.snd.fst z) (Value.int IntKind.i64 0 = Value.int IntKind.i64 rk ∧ [] = rt ∧ Value.int IntKind.i64 0 = Value.int IntKind.i64 rn ∧ Value.int IntKind.i64 1 = Value.int IntKind.i64 re ∧ True)
 (Value.int IntKind.i64 s_2.snd.snd.fst = Value.int IntKind.i64 rk ∧ s_2.snd.snd.snd.length = s_2.snd.snd.snd.length ∧ s_2.snd.snd.snd = rt ∧ Value.int IntKind.i64 0 = Value.int IntKind.i64 rn ∧ Value.int IntKind.i64 0 = Value.int IntKind.i64 re ∧ True)))) := by kernel_rfl
end Go.Proofs.YtkcelhhhbbpbpaaDoor
