/- What the laws ask that are checked without the reference. -/
import Derived.Test.YtmghbedgfnlpoaaSpecW
namespace Go.Proofs.Ytmghbedgfnlpoaa
open Go Go.Abs Go.RowKit
set_option linter.unusedVariables false
set_option linter.unusedSimpArgs false
theorem vc_awake  (K : Value → Prop) : callsX Try.prog (ΓA) (noAnn) 12 [] K = (
 (I64 1099511627776 ∧ I64 (-1099511627776)) ∧ I64 (-7) ∧ I64 2 ∧ I64 (-7) ∧ I64 2 ∧ True ∧ I64 (-1) ∧ K (Value.bool (gate (okR 2097152 0) (rootI 61 (val 2097152 0) 0) == 1554944255987))) := by kernel_rfl
theorem vc_factors (a b c : Int) (K : Value → Prop) : callsX Try.prog (ΓL) (noAnn) 6 [num a, num b, num c] K = (
 True ∧
 bcase (decide (a < -288230376151711744)) (K (Value.bool true))
 (bcase (decide (a > 288230376151711744)) (K (Value.bool true))
 (bcase (decide (b < -288230376151711744)) (K (Value.bool true))
 (bcase (decide (b > 288230376151711744)) (K (Value.bool true))
 (bcase (decide (c < -288230376151711744)) (K (Value.bool true))
 (bcase (decide (c > 288230376151711744)) (K (Value.bool true))
 ((I64 a ∧ I64 b) ∧
 (I64 a ∧ I64 c) ∧
 (I64 a ∧ I64 (IntKind.i64.wrap (b + c))) ∧
 True ∧
 bcase (pick (F120 (a * b)) 0 5 != 0) (K (Value.bool false))
 (bcase (pick (F120 (a * c)) 0 5 != 0) (K (Value.bool false))
 (bcase (pick (F120 (a * IntKind.i64.wrap (b + c))) 0 5 != 0) (K (Value.bool false))
 (bcase (pick (two (gate (F120 (a * b)) (hiO (a * b))) (gate (F120 (a * b)) (loO (a * b))) (gate (F120 (a * c)) (hiO (a * c))) (gate (F120 (a * c)) (loO (a * c)))) (pick (F120 (val (gate (F120 (a * b)) (hiO (a * b))) (gate (F120 (a * b)) (loO (a * b))) + val (gate (F120 (a * c)) (hiO (a * c))) (gate (F120 (a * c)) (loO (a * c))))) 0 5) 1 != 0) (K (Value.bool false))
 (bcase
 (!(gate (F120 (a * IntKind.i64.wrap (b + c))) (hiO (a * IntKind.i64.wrap (b + c))) ==
 gate (ok2 (gate (F120 (a * b)) (hiO (a * b))) (gate (F120 (a * b)) (loO (a * b))) (gate (F120 (a * c)) (hiO (a * c))) (gate (F120 (a * c)) (loO (a * c))) (val (gate (F120 (a * b)) (hiO (a * b))) (gate (F120 (a * b)) (loO (a * b))) + val (gate (F120 (a * c)) (hiO (a * c))) (gate (F120 (a * c)) (loO (a * c)))))
 (hiO (val (gate (F120 (a * b)) (hiO (a * b))) (gate (F120 (a * b)) (loO (a * b))) + val (gate (F120 (a * c)) (hiO (a * c))) (gate (F120 (a * c)) (loO (a * c))))) &&
 (gate (F120 (a * IntKind.i64.wrap (b + c))) (loO (a * IntKind.i64.wrap (b + c))) ==
 gate (ok2 (gate (F120 (a * b)) (hiO (a * b))) (gate (F120 (a * b)) (loO (a * b))) (gate (F120 (a * c)) (hiO (a * c))) (gate (F120 (a * c)) (loO (a * c))) (val (gate (F120 (a * b)) (hiO (a * b))) (gate (F120 (a * b)) (loO (a * b))) + val (gate (F120 (a * c)) (hiO (a * c))) (gate (F120 (a * c)) (loO (a * c)))))
 (loO (val (gate (F120 (a * b)) (hiO (a * b))) (gate (F120 (a * b)) (loO (a * b))) + val (gate (F120 (a * c)) (hiO (a * c))) (gate (F120 (a * c)) (loO (a * c))))) &&
 true)))
 (K (Value.bool false))
 (bcase (b == 0) (K (Value.bool (gate (F120 (a * b)) (hiO (a * b)) == 0 && (gate (F120 (a * b)) (loO (a * b)) == 0 && true))))
 (I64 b ∧
 I64 b ∧
 bcase (pick (WV (gate (F120 (a * b)) (hiO (a * b))) (gate (F120 (a * b)) (loO (a * b)))) (pick (b = 0) 16 (pick (I64 (quoI (val (gate (F120 (a * b)) (hiO (a * b))) (gate (F120 (a * b)) (loO (a * b)))) b false)) 0 5)) 1 == 0)
 (bcase (pick (WV (gate (F120 (a * b)) (hiO (a * b))) (gate (F120 (a * b)) (loO (a * b)))) (pick (b = 0) 16 (pick (I64 (quoI (val (gate (F120 (a * b)) (hiO (a * b))) (gate (F120 (a * b)) (loO (a * b)))) b true)) 0 5)) 1 == 0)
 (bcase (gate (okQ (gate (F120 (a * b)) (hiO (a * b))) (gate (F120 (a * b)) (loO (a * b))) b false) (quoI (val (gate (F120 (a * b)) (hiO (a * b))) (gate (F120 (a * b)) (loO (a * b)))) b false) == a)
 (K (Value.bool (gate (okQ (gate (F120 (a * b)) (hiO (a * b))) (gate (F120 (a * b)) (loO (a * b))) b true) (quoI (val (gate (F120 (a * b)) (hiO (a * b))) (gate (F120 (a * b)) (loO (a * b)))) b true) == a))) (K (Value.bool false)))
 (K (Value.bool false)))
 (K (Value.bool false))))))))))))))) := by kernel_rfl
theorem vc_squares (h l n : Int) (K : Value → Prop) : callsX Try.prog (ΓL) (noAnn) 8 [wid h l, .int .u32 n] K = (
 True ∧
 (I64 (IntKind.i64.wrap (IntKind.i64.wrap (IntKind.i64.wrap n * 2 ^ 27) + IntKind.i64.wrap n)) ∧ I64 (IntKind.i64.wrap (IntKind.i64.wrap (IntKind.i64.wrap n * 2 ^ 27) + IntKind.i64.wrap n))) ∧
 True ∧
 bcase (pick (F120 (IntKind.i64.wrap (IntKind.i64.wrap (IntKind.i64.wrap n * 2 ^ 27) + IntKind.i64.wrap n) * IntKind.i64.wrap (IntKind.i64.wrap (IntKind.i64.wrap n * 2 ^ 27) + IntKind.i64.wrap n))) 0 5 != 0) (K (Value.bool false))
 (bcase
 (pick
 (WV (gate (F120 (IntKind.i64.wrap (IntKind.i64.wrap (IntKind.i64.wrap n * 2 ^ 27) + IntKind.i64.wrap n) * IntKind.i64.wrap (IntKind.i64.wrap (IntKind.i64.wrap n * 2 ^ 27) + IntKind.i64.wrap n))) (hiO (IntKind.i64.wrap (IntKind.i64.wrap (IntKind.i64.wrap n * 2 ^ 27) + IntKind.i64.wrap n) * IntKind.i64.wrap (IntKind.i64.wrap (IntKind.i64.wrap n * 2 ^ 27) + IntKind.i64.wrap n))))
 (gate (F120 (IntKind.i64.wrap (IntKind.i64.wrap (IntKind.i64.wrap n * 2 ^ 27) + IntKind.i64.wrap n) * IntKind.i64.wrap (IntKind.i64.wrap (IntKind.i64.wrap n * 2 ^ 27) + IntKind.i64.wrap n))) (loO (IntKind.i64.wrap (IntKind.i64.wrap (IntKind.i64.wrap n * 2 ^ 27) + IntKind.i64.wrap n) * IntKind.i64.wrap (IntKind.i64.wrap (IntKind.i64.wrap n * 2 ^ 27) + IntKind.i64.wrap n)))))
 (pick (0 ≤ gate (F120 (IntKind.i64.wrap (IntKind.i64.wrap (IntKind.i64.wrap n * 2 ^ 27) + IntKind.i64.wrap n) * IntKind.i64.wrap (IntKind.i64.wrap (IntKind.i64.wrap n * 2 ^ 27) + IntKind.i64.wrap n))) (hiO (IntKind.i64.wrap (IntKind.i64.wrap (IntKind.i64.wrap n * 2 ^ 27) + IntKind.i64.wrap n) * IntKind.i64.wrap (IntKind.i64.wrap (IntKind.i64.wrap n * 2 ^ 27) + IntKind.i64.wrap n)))) 0 2) 1 !=
 0)
 (K (Value.bool false))
 (bcase
 (gate
 (okR (gate (F120 (IntKind.i64.wrap (IntKind.i64.wrap (IntKind.i64.wrap n * 2 ^ 27) + IntKind.i64.wrap n) * IntKind.i64.wrap (IntKind.i64.wrap (IntKind.i64.wrap n * 2 ^ 27) + IntKind.i64.wrap n))) (hiO (IntKind.i64.wrap (IntKind.i64.wrap (IntKind.i64.wrap n * 2 ^ 27) + IntKind.i64.wrap n) * IntKind.i64.wrap (IntKind.i64.wrap (IntKind.i64.wrap n * 2 ^ 27) + IntKind.i64.wrap n))))
 (gate (F120 (IntKind.i64.wrap (IntKind.i64.wrap (IntKind.i64.wrap n * 2 ^ 27) + IntKind.i64.wrap n) * IntKind.i64.wrap (IntKind.i64.wrap (IntKind.i64.wrap n * 2 ^ 27) + IntKind.i64.wrap n))) (loO (IntKind.i64.wrap (IntKind.i64.wrap (IntKind.i64.wrap n * 2 ^ 27) + IntKind.i64.wrap n) * IntKind.i64.wrap (IntKind.i64.wrap (IntKind.i64.wrap n * 2 ^ 27) + IntKind.i64.wrap n)))))
 (rootI 61
 (val (gate (F120 (IntKind.i64.wrap (IntKind.i64.wrap (IntKind.i64.wrap n * 2 ^ 27) + IntKind.i64.wrap n) * IntKind.i64.wrap (IntKind.i64.wrap (IntKind.i64.wrap n * 2 ^ 27) + IntKind.i64.wrap n))) (hiO (IntKind.i64.wrap (IntKind.i64.wrap (IntKind.i64.wrap n * 2 ^ 27) + IntKind.i64.wrap n) * IntKind.i64.wrap (IntKind.i64.wrap (IntKind.i64.wrap n * 2 ^ 27) + IntKind.i64.wrap n))))
 (gate (F120 (IntKind.i64.wrap (IntKind.i64.wrap (IntKind.i64.wrap n * 2 ^ 27) + IntKind.i64.wrap n) * IntKind.i64.wrap (IntKind.i64.wrap (IntKind.i64.wrap n * 2 ^ 27) + IntKind.i64.wrap n))) (loO (IntKind.i64.wrap (IntKind.i64.wrap (IntKind.i64.wrap n * 2 ^ 27) + IntKind.i64.wrap n) * IntKind.i64.wrap (IntKind.i64.wrap (IntKind.i64.wrap n * 2 ^ 27) + IntKind.i64.wrap n)))))
 0) !=
 IntKind.i64.wrap (IntKind.i64.wrap (IntKind.i64.wrap n * 2 ^ 27) + IntKind.i64.wrap n))
 (K (Value.bool false))
 (True ∧
 bcase (pick (WV h l) (pick (0 ≤ h) 0 2) 1 != 0)
 (bcase (gate (okR h l) (rootI 61 (val h l) 0) == 0) (bcase (pick (WV h l) (pick (0 ≤ h) 0 2) 1 == 1) (True ∧ bcase (!decide (WV h l)) (K (Value.bool true)) (bcase (pick (WV h l) (pick (0 ≤ h) 0 2) 1 == 2) (K (Value.bool (decide (h < 0)))) (K (Value.bool false)))) (bcase (pick (WV h l) (pick (0 ≤ h) 0 2) 1 == 2) (K (Value.bool (decide (h < 0)))) (K (Value.bool false)))) (K (Value.bool false)))
 ((I64 (gate (okR h l) (rootI 61 (val h l) 0)) ∧ I64 (gate (okR h l) (rootI 61 (val h l) 0))) ∧
 True ∧
 bcase (decide (gate (okR h l) (rootI 61 (val h l) 0) < 0)) (K (Value.bool false))
 (bcase (pick (F120 (gate (okR h l) (rootI 61 (val h l) 0) * gate (okR h l) (rootI 61 (val h l) 0))) 0 5 != 0) (K (Value.bool false))
 (bcase (pick (two (gate (F120 (gate (okR h l) (rootI 61 (val h l) 0) * gate (okR h l) (rootI 61 (val h l) 0))) (hiO (gate (okR h l) (rootI 61 (val h l) 0) * gate (okR h l) (rootI 61 (val h l) 0)))) (gate (F120 (gate (okR h l) (rootI 61 (val h l) 0) * gate (okR h l) (rootI 61 (val h l) 0))) (loO (gate (okR h l) (rootI 61 (val h l) 0) * gate (okR h l) (rootI 61 (val h l) 0)))) h l) 0 1 != 0)
 (K (Value.bool false))
 (bcase
 (decide
 (gate (two (gate (F120 (gate (okR h l) (rootI 61 (val h l) 0) * gate (okR h l) (rootI 61 (val h l) 0))) (hiO (gate (okR h l) (rootI 61 (val h l) 0) * gate (okR h l) (rootI 61 (val h l) 0)))) (gate (F120 (gate (okR h l) (rootI 61 (val h l) 0) * gate (okR h l) (rootI 61 (val h l) 0))) (loO (gate (okR h l) (rootI 61 (val h l) 0) * gate (okR h l) (rootI 61 (val h l) 0)))) h l)
 (ordI (val (gate (F120 (gate (okR h l) (rootI 61 (val h l) 0) * gate (okR h l) (rootI 61 (val h l) 0))) (hiO (gate (okR h l) (rootI 61 (val h l) 0) * gate (okR h l) (rootI 61 (val h l) 0)))) (gate (F120 (gate (okR h l) (rootI 61 (val h l) 0) * gate (okR h l) (rootI 61 (val h l) 0))) (loO (gate (okR h l) (rootI 61 (val h l) 0) * gate (okR h l) (rootI 61 (val h l) 0))))) (val h l)) >
 0))
 (K (Value.bool false))
 ((I64 (IntKind.i64.wrap (gate (okR h l) (rootI 61 (val h l) 0) + 1)) ∧ I64 (IntKind.i64.wrap (gate (okR h l) (rootI 61 (val h l) 0) + 1))) ∧
 bcase (pick (F120 (IntKind.i64.wrap (gate (okR h l) (rootI 61 (val h l) 0) + 1) * IntKind.i64.wrap (gate (okR h l) (rootI 61 (val h l) 0) + 1))) 0 5 != 0) (K (Value.bool (pick (F120 (IntKind.i64.wrap (gate (okR h l) (rootI 61 (val h l) 0) + 1) * IntKind.i64.wrap (gate (okR h l) (rootI 61 (val h l) 0) + 1))) 0 5 == 5)))
 (True ∧
 bcase
 (pick
 (two h l (gate (F120 (IntKind.i64.wrap (gate (okR h l) (rootI 61 (val h l) 0) + 1) * IntKind.i64.wrap (gate (okR h l) (rootI 61 (val h l) 0) + 1))) (hiO (IntKind.i64.wrap (gate (okR h l) (rootI 61 (val h l) 0) + 1) * IntKind.i64.wrap (gate (okR h l) (rootI 61 (val h l) 0) + 1))))
 (gate (F120 (IntKind.i64.wrap (gate (okR h l) (rootI 61 (val h l) 0) + 1) * IntKind.i64.wrap (gate (okR h l) (rootI 61 (val h l) 0) + 1))) (loO (IntKind.i64.wrap (gate (okR h l) (rootI 61 (val h l) 0) + 1) * IntKind.i64.wrap (gate (okR h l) (rootI 61 (val h l) 0) + 1)))))
 0 1 ==
 0)
 (K
 (Value.bool
 (decide
 (gate
 (two h l (gate (F120 (IntKind.i64.wrap (gate (okR h l) (rootI 61 (val h l) 0) + 1) * IntKind.i64.wrap (gate (okR h l) (rootI 61 (val h l) 0) + 1))) (hiO (IntKind.i64.wrap (gate (okR h l) (rootI 61 (val h l) 0) + 1) * IntKind.i64.wrap (gate (okR h l) (rootI 61 (val h l) 0) + 1))))
 (gate (F120 (IntKind.i64.wrap (gate (okR h l) (rootI 61 (val h l) 0) + 1) * IntKind.i64.wrap (gate (okR h l) (rootI 61 (val h l) 0) + 1))) (loO (IntKind.i64.wrap (gate (okR h l) (rootI 61 (val h l) 0) + 1) * IntKind.i64.wrap (gate (okR h l) (rootI 61 (val h l) 0) + 1)))))
 (ordI (val h l)
 (val (gate (F120 (IntKind.i64.wrap (gate (okR h l) (rootI 61 (val h l) 0) + 1) * IntKind.i64.wrap (gate (okR h l) (rootI 61 (val h l) 0) + 1))) (hiO (IntKind.i64.wrap (gate (okR h l) (rootI 61 (val h l) 0) + 1) * IntKind.i64.wrap (gate (okR h l) (rootI 61 (val h l) 0) + 1))))
 (gate (F120 (IntKind.i64.wrap (gate (okR h l) (rootI 61 (val h l) 0) + 1) * IntKind.i64.wrap (gate (okR h l) (rootI 61 (val h l) 0) + 1))) (loO (IntKind.i64.wrap (gate (okR h l) (rootI 61 (val h l) 0) + 1) * IntKind.i64.wrap (gate (okR h l) (rootI 61 (val h l) 0) + 1)))))) <
 0))))
 (K (Value.bool false)))))))))))) := by kernel_rfl
theorem vc_floors (h l b : Int) (K : Value → Prop) : callsX Try.prog (ΓL) (noAnn) 9 [wid h l, num b] K = (
 True ∧
 True ∧
 bcase (!decide (WV h l)) (K (Value.bool true))
 (bcase (decide (b < 1)) (K (Value.bool true))
 (bcase (decide (b > 1125899906842624)) (K (Value.bool true))
 (I64 b ∧
 I64 b ∧
 bcase (pick (WV h l) (pick (b = 0) 16 (pick (I64 (quoI (val h l) b false)) 0 5)) 1 != 0)
 (bcase (pick (WV h l) (pick (b = 0) 16 (pick (I64 (quoI (val h l) b false)) 0 5)) 1 == 0) (bcase (pick (WV h l) (pick (b = 0) 16 (pick (I64 (quoI (val h l) b true)) 0 5)) 1 == 0) (K (Value.bool true)) (bcase (pick (WV h l) (pick (b = 0) 16 (pick (I64 (quoI (val h l) b true)) 0 5)) 1 == 5) (K (Value.bool (gate (okQ h l b true) (quoI (val h l) b true) == 0))) (K (Value.bool false))))
 (bcase (pick (WV h l) (pick (b = 0) 16 (pick (I64 (quoI (val h l) b false)) 0 5)) 1 == 5)
 (bcase (gate (okQ h l b false) (quoI (val h l) b false) == 0) (bcase (pick (WV h l) (pick (b = 0) 16 (pick (I64 (quoI (val h l) b true)) 0 5)) 1 == 0) (K (Value.bool true)) (bcase (pick (WV h l) (pick (b = 0) 16 (pick (I64 (quoI (val h l) b true)) 0 5)) 1 == 5) (K (Value.bool (gate (okQ h l b true) (quoI (val h l) b true) == 0))) (K (Value.bool false)))) (K (Value.bool false)))
 (K (Value.bool false))))
 (bcase (pick (WV h l) (pick (b = 0) 16 (pick (I64 (quoI (val h l) b true)) 0 5)) 1 != 0)
 (bcase (pick (WV h l) (pick (b = 0) 16 (pick (I64 (quoI (val h l) b false)) 0 5)) 1 == 0) (bcase (pick (WV h l) (pick (b = 0) 16 (pick (I64 (quoI (val h l) b true)) 0 5)) 1 == 0) (K (Value.bool true)) (bcase (pick (WV h l) (pick (b = 0) 16 (pick (I64 (quoI (val h l) b true)) 0 5)) 1 == 5) (K (Value.bool (gate (okQ h l b true) (quoI (val h l) b true) == 0))) (K (Value.bool false))))
 (bcase (pick (WV h l) (pick (b = 0) 16 (pick (I64 (quoI (val h l) b false)) 0 5)) 1 == 5)
 (bcase (gate (okQ h l b false) (quoI (val h l) b false) == 0) (bcase (pick (WV h l) (pick (b = 0) 16 (pick (I64 (quoI (val h l) b true)) 0 5)) 1 == 0) (K (Value.bool true)) (bcase (pick (WV h l) (pick (b = 0) 16 (pick (I64 (quoI (val h l) b true)) 0 5)) 1 == 5) (K (Value.bool (gate (okQ h l b true) (quoI (val h l) b true) == 0))) (K (Value.bool false)))) (K (Value.bool false)))
 (K (Value.bool false))))
 (True ∧
 bcase (pick (two 0 0 h l) (pick (F120 (val 0 0 - val h l)) 0 5) 1 == 0)
 (I64 b ∧
 bcase (decide (gate (okQ h l b false) (quoI (val h l) b false) > -4611686018427387904))
 (bcase (pick (WV (gate (ok2 0 0 h l (val 0 0 - val h l)) (hiO (val 0 0 - val h l))) (gate (ok2 0 0 h l (val 0 0 - val h l)) (loO (val 0 0 - val h l)))) (pick (b = 0) 16 (pick (I64 (quoI (val (gate (ok2 0 0 h l (val 0 0 - val h l)) (hiO (val 0 0 - val h l))) (gate (ok2 0 0 h l (val 0 0 - val h l)) (loO (val 0 0 - val h l)))) b false)) 0 5)) 1 != 0) (K (Value.bool false))
 (bcase (IntKind.i64.wrap (0 - gate (okQ (gate (ok2 0 0 h l (val 0 0 - val h l)) (hiO (val 0 0 - val h l))) (gate (ok2 0 0 h l (val 0 0 - val h l)) (loO (val 0 0 - val h l))) b false) (quoI (val (gate (ok2 0 0 h l (val 0 0 - val h l)) (hiO (val 0 0 - val h l))) (gate (ok2 0 0 h l (val 0 0 - val h l)) (loO (val 0 0 - val h l)))) b false)) != gate (okQ h l b true) (quoI (val h l) b true))
 (K (Value.bool false))
 (bcase (decide (gate (okQ h l b false) (quoI (val h l) b false) < -1152921504606846976)) (K (Value.bool true))
 (bcase (decide (gate (okQ h l b false) (quoI (val h l) b false) > 1152921504606846976)) (K (Value.bool true))
 ((I64 (gate (okQ h l b false) (quoI (val h l) b false)) ∧ I64 b) ∧
 (I64 (IntKind.i64.wrap (gate (okQ h l b false) (quoI (val h l) b false) + 1)) ∧ I64 b) ∧
 True ∧
 True ∧
 bcase (pick (F120 (gate (okQ h l b false) (quoI (val h l) b false) * b)) 0 5 == 0)
 (bcase (pick (F120 (IntKind.i64.wrap (gate (okQ h l b false) (quoI (val h l) b false) + 1) * b)) 0 5 == 0)
 (bcase (pick (two (gate (F120 (gate (okQ h l b false) (quoI (val h l) b false) * b)) (hiO (gate (okQ h l b false) (quoI (val h l) b false) * b))) (gate (F120 (gate (okQ h l b false) (quoI (val h l) b false) * b)) (loO (gate (okQ h l b false) (quoI (val h l) b false) * b))) h l) 0 1 == 0)
 (bcase (pick (two h l (gate (F120 (IntKind.i64.wrap (gate (okQ h l b false) (quoI (val h l) b false) + 1) * b)) (hiO (IntKind.i64.wrap (gate (okQ h l b false) (quoI (val h l) b false) + 1) * b))) (gate (F120 (IntKind.i64.wrap (gate (okQ h l b false) (quoI (val h l) b false) + 1) * b)) (loO (IntKind.i64.wrap (gate (okQ h l b false) (quoI (val h l) b false) + 1) * b)))) 0 1 == 0)
 (bcase
 (decide
 (gate (two (gate (F120 (gate (okQ h l b false) (quoI (val h l) b false) * b)) (hiO (gate (okQ h l b false) (quoI (val h l) b false) * b))) (gate (F120 (gate (okQ h l b false) (quoI (val h l) b false) * b)) (loO (gate (okQ h l b false) (quoI (val h l) b false) * b))) h l)
 (ordI (val (gate (F120 (gate (okQ h l b false) (quoI (val h l) b false) * b)) (hiO (gate (okQ h l b false) (quoI (val h l) b false) * b))) (gate (F120 (gate (okQ h l b false) (quoI (val h l) b false) * b)) (loO (gate (okQ h l b false) (quoI (val h l) b false) * b)))) (val h l)) ≤
 0))
 (bcase
 (decide
 (gate (two h l (gate (F120 (IntKind.i64.wrap (gate (okQ h l b false) (quoI (val h l) b false) + 1) * b)) (hiO (IntKind.i64.wrap (gate (okQ h l b false) (quoI (val h l) b false) + 1) * b))) (gate (F120 (IntKind.i64.wrap (gate (okQ h l b false) (quoI (val h l) b false) + 1) * b)) (loO (IntKind.i64.wrap (gate (okQ h l b false) (quoI (val h l) b false) + 1) * b))))
 (ordI (val h l) (val (gate (F120 (IntKind.i64.wrap (gate (okQ h l b false) (quoI (val h l) b false) + 1) * b)) (hiO (IntKind.i64.wrap (gate (okQ h l b false) (quoI (val h l) b false) + 1) * b))) (gate (F120 (IntKind.i64.wrap (gate (okQ h l b false) (quoI (val h l) b false) + 1) * b)) (loO (IntKind.i64.wrap (gate (okQ h l b false) (quoI (val h l) b false) + 1) * b))))) <
 0))
 (bcase
 ((gate (two (gate (F120 (gate (okQ h l b false) (quoI (val h l) b false) * b)) (hiO (gate (okQ h l b false) (quoI (val h l) b false) * b))) (gate (F120 (gate (okQ h l b false) (quoI (val h l) b false) * b)) (loO (gate (okQ h l b false) (quoI (val h l) b false) * b))) h l)
 (ordI (val (gate (F120 (gate (okQ h l b false) (quoI (val h l) b false) * b)) (hiO (gate (okQ h l b false) (quoI (val h l) b false) * b))) (gate (F120 (gate (okQ h l b false) (quoI (val h l) b false) * b)) (loO (gate (okQ h l b false) (quoI (val h l) b false) * b)))) (val h l)) ==
 0) ==
 (gate (okQ h l b true) (quoI (val h l) b true) == gate (okQ h l b false) (quoI (val h l) b false)))
 (K (Value.bool (decide (IntKind.i64.wrap (gate (okQ h l b true) (quoI (val h l) b true) - gate (okQ h l b false) (quoI (val h l) b false)) ≤ 1)))) (K (Value.bool false)))
 (K (Value.bool false)))
 (K (Value.bool false)))
 (K (Value.bool false)))
 (K (Value.bool false)))
 (K (Value.bool false)))
 (K (Value.bool false)))))))
 (bcase (decide (gate (okQ h l b false) (quoI (val h l) b false) < -1152921504606846976)) (K (Value.bool true))
 (bcase (decide (gate (okQ h l b false) (quoI (val h l) b false) > 1152921504606846976)) (K (Value.bool true))
 ((I64 (gate (okQ h l b false) (quoI (val h l) b false)) ∧ I64 b) ∧
 (I64 (IntKind.i64.wrap (gate (okQ h l b false) (quoI (val h l) b false) + 1)) ∧ I64 b) ∧
 True ∧
 True ∧
 bcase (pick (F120 (gate (okQ h l b false) (quoI (val h l) b false) * b)) 0 5 == 0)
 (bcase (pick (F120 (IntKind.i64.wrap (gate (okQ h l b false) (quoI (val h l) b false) + 1) * b)) 0 5 == 0)
 (bcase (pick (two (gate (F120 (gate (okQ h l b false) (quoI (val h l) b false) * b)) (hiO (gate (okQ h l b false) (quoI (val h l) b false) * b))) (gate (F120 (gate (okQ h l b false) (quoI (val h l) b false) * b)) (loO (gate (okQ h l b false) (quoI (val h l) b false) * b))) h l) 0 1 == 0)
 (bcase (pick (two h l (gate (F120 (IntKind.i64.wrap (gate (okQ h l b false) (quoI (val h l) b false) + 1) * b)) (hiO (IntKind.i64.wrap (gate (okQ h l b false) (quoI (val h l) b false) + 1) * b))) (gate (F120 (IntKind.i64.wrap (gate (okQ h l b false) (quoI (val h l) b false) + 1) * b)) (loO (IntKind.i64.wrap (gate (okQ h l b false) (quoI (val h l) b false) + 1) * b)))) 0 1 == 0)
 (bcase
 (decide
 (gate (two (gate (F120 (gate (okQ h l b false) (quoI (val h l) b false) * b)) (hiO (gate (okQ h l b false) (quoI (val h l) b false) * b))) (gate (F120 (gate (okQ h l b false) (quoI (val h l) b false) * b)) (loO (gate (okQ h l b false) (quoI (val h l) b false) * b))) h l)
 (ordI (val (gate (F120 (gate (okQ h l b false) (quoI (val h l) b false) * b)) (hiO (gate (okQ h l b false) (quoI (val h l) b false) * b))) (gate (F120 (gate (okQ h l b false) (quoI (val h l) b false) * b)) (loO (gate (okQ h l b false) (quoI (val h l) b false) * b)))) (val h l)) ≤
 0))
 (bcase
 (decide
 (gate (two h l (gate (F120 (IntKind.i64.wrap (gate (okQ h l b false) (quoI (val h l) b false) + 1) * b)) (hiO (IntKind.i64.wrap (gate (okQ h l b false) (quoI (val h l) b false) + 1) * b))) (gate (F120 (IntKind.i64.wrap (gate (okQ h l b false) (quoI (val h l) b false) + 1) * b)) (loO (IntKind.i64.wrap (gate (okQ h l b false) (quoI (val h l) b false) + 1) * b))))
 (ordI (val h l) (val (gate (F120 (IntKind.i64.wrap (gate (okQ h l b false) (quoI (val h l) b false) + 1) * b)) (hiO (IntKind.i64.wrap (gate (okQ h l b false) (quoI (val h l) b false) + 1) * b))) (gate (F120 (IntKind.i64.wrap (gate (okQ h l b false) (quoI (val h l) b false) + 1) * b)) (loO (IntKind.i64.wrap (gate (okQ h l b false) (quoI (val h l) b false) + 1) * b))))) <
 0))
 (bcase
 ((gate (two (gate (F120 (gate (okQ h l b false) (quoI (val h l) b false) * b)) (hiO (gate (okQ h l b false) (quoI (val h l) b false) * b))) (gate (F120 (gate (okQ h l b false) (quoI (val h l) b false) * b)) (loO (gate (okQ h l b false) (quoI (val h l) b false) * b))) h l)
 (ordI (val (gate (F120 (gate (okQ h l b false) (quoI (val h l) b false) * b)) (hiO (gate (okQ h l b false) (quoI (val h l) b false) * b))) (gate (F120 (gate (okQ h l b false) (quoI (val h l) b false) * b)) (loO (gate (okQ h l b false) (quoI (val h l) b false) * b)))) (val h l)) ==
 0) ==
 (gate (okQ h l b true) (quoI (val h l) b true) == gate (okQ h l b false) (quoI (val h l) b false)))
 (K (Value.bool (decide (IntKind.i64.wrap (gate (okQ h l b true) (quoI (val h l) b true) - gate (okQ h l b false) (quoI (val h l) b false)) ≤ 1)))) (K (Value.bool false)))
 (K (Value.bool false)))
 (K (Value.bool false)))
 (K (Value.bool false)))
 (K (Value.bool false)))
 (K (Value.bool false)))
 (K (Value.bool false))))))
 (bcase (decide (gate (okQ h l b false) (quoI (val h l) b false) < -1152921504606846976)) (K (Value.bool true))
 (bcase (decide (gate (okQ h l b false) (quoI (val h l) b false) > 1152921504606846976)) (K (Value.bool true))
 ((I64 (gate (okQ h l b false) (quoI (val h l) b false)) ∧ I64 b) ∧
 (I64 (IntKind.i64.wrap (gate (okQ h l b false) (quoI (val h l) b false) + 1)) ∧ I64 b) ∧
 True ∧
 True ∧
 bcase (pick (F120 (gate (okQ h l b false) (quoI (val h l) b false) * b)) 0 5 == 0)
 (bcase (pick (F120 (IntKind.i64.wrap (gate (okQ h l b false) (quoI (val h l) b false) + 1) * b)) 0 5 == 0)
 (bcase (pick (two (gate (F120 (gate (okQ h l b false) (quoI (val h l) b false) * b)) (hiO (gate (okQ h l b false) (quoI (val h l) b false) * b))) (gate (F120 (gate (okQ h l b false) (quoI (val h l) b false) * b)) (loO (gate (okQ h l b false) (quoI (val h l) b false) * b))) h l) 0 1 == 0)
 (bcase (pick (two h l (gate (F120 (IntKind.i64.wrap (gate (okQ h l b false) (quoI (val h l) b false) + 1) * b)) (hiO (IntKind.i64.wrap (gate (okQ h l b false) (quoI (val h l) b false) + 1) * b))) (gate (F120 (IntKind.i64.wrap (gate (okQ h l b false) (quoI (val h l) b false) + 1) * b)) (loO (IntKind.i64.wrap (gate (okQ h l b false) (quoI (val h l) b false) + 1) * b)))) 0 1 == 0)
 (bcase
 (decide
 (gate (two (gate (F120 (gate (okQ h l b false) (quoI (val h l) b false) * b)) (hiO (gate (okQ h l b false) (quoI (val h l) b false) * b))) (gate (F120 (gate (okQ h l b false) (quoI (val h l) b false) * b)) (loO (gate (okQ h l b false) (quoI (val h l) b false) * b))) h l)
 (ordI (val (gate (F120 (gate (okQ h l b false) (quoI (val h l) b false) * b)) (hiO (gate (okQ h l b false) (quoI (val h l) b false) * b))) (gate (F120 (gate (okQ h l b false) (quoI (val h l) b false) * b)) (loO (gate (okQ h l b false) (quoI (val h l) b false) * b)))) (val h l)) ≤
 0))
 (bcase
 (decide
 (gate (two h l (gate (F120 (IntKind.i64.wrap (gate (okQ h l b false) (quoI (val h l) b false) + 1) * b)) (hiO (IntKind.i64.wrap (gate (okQ h l b false) (quoI (val h l) b false) + 1) * b))) (gate (F120 (IntKind.i64.wrap (gate (okQ h l b false) (quoI (val h l) b false) + 1) * b)) (loO (IntKind.i64.wrap (gate (okQ h l b false) (quoI (val h l) b false) + 1) * b))))
 (ordI (val h l) (val (gate (F120 (IntKind.i64.wrap (gate (okQ h l b false) (quoI (val h l) b false) + 1) * b)) (hiO (IntKind.i64.wrap (gate (okQ h l b false) (quoI (val h l) b false) + 1) * b))) (gate (F120 (IntKind.i64.wrap (gate (okQ h l b false) (quoI (val h l) b false) + 1) * b)) (loO (IntKind.i64.wrap (gate (okQ h l b false) (quoI (val h l) b false) + 1) * b))))) <
 0))
 (bcase
 ((gate (two (gate (F120 (gate (okQ h l b false) (quoI (val h l) b false) * b)) (hiO (gate (okQ h l b false) (quoI (val h l) b false) * b))) (gate (F120 (gate (okQ h l b false) (quoI (val h l) b false) * b)) (loO (gate (okQ h l b false) (quoI (val h l) b false) * b))) h l)
 (ordI (val (gate (F120 (gate (okQ h l b false) (quoI (val h l) b false) * b)) (hiO (gate (okQ h l b false) (quoI (val h l) b false) * b))) (gate (F120 (gate (okQ h l b false) (quoI (val h l) b false) * b)) (loO (gate (okQ h l b false) (quoI (val h l) b false) * b)))) (val h l)) ==
 0) ==
 (gate (okQ h l b true) (quoI (val h l) b true) == gate (okQ h l b false) (quoI (val h l) b false)))
 (K (Value.bool (decide (IntKind.i64.wrap (gate (okQ h l b true) (quoI (val h l) b true) - gate (okQ h l b false) (quoI (val h l) b false)) ≤ 1)))) (K (Value.bool false)))
 (K (Value.bool false)))
 (K (Value.bool false)))
 (K (Value.bool false)))
 (K (Value.bool false)))
 (K (Value.bool false)))
 (K (Value.bool false))))))))))) := by kernel_rfl
theorem vc_back (a b c d n : Int) (K : Value → Prop) : callsX Try.prog (ΓL) (noAnn) 11 [wid a b, wid c d, num n] K = (
 True ∧
 I64 n ∧
 True ∧
 bcase (gate (okI (hiO n) (loO n)) (val (hiO n) (loO n)) != n) (K (Value.bool false))
 (bcase (pick (WV (hiO n) (loO n)) (pick (I64 (val (hiO n) (loO n))) 0 5) 1 != 0) (K (Value.bool false))
 (I64 n ∧
 True ∧
 bcase (!decide (WV (hiO n) (loO n))) (K (Value.bool false))
 (True ∧
 bcase (!decide (WV a b)) (K (Value.bool true))
 (True ∧
 bcase (!decide (WV c d)) (K (Value.bool true))
 (True ∧
 True ∧
 bcase (pick (two a b c d) 0 1 != 0) (K (Value.bool false))
 (bcase (pick (two c d a b) 0 1 != 0) (K (Value.bool false))
 (bcase (gate (two a b c d) (ordI (val a b) (val c d)) != IntKind.i64.wrap (0 - gate (two c d a b) (ordI (val c d) (val a b)))) (K (Value.bool false))
 (bcase (!(gate (two a b c d) (ordI (val a b) (val c d)) == 0) == (a == c && (b == d && true))) (K (Value.bool false))
 (True ∧
 True ∧
 bcase (!(gate (ok2 a b c d (val a b + val c d)) (hiO (val a b + val c d)) == gate (ok2 c d a b (val c d + val a b)) (hiO (val c d + val a b)) && (gate (ok2 a b c d (val a b + val c d)) (loO (val a b + val c d)) == gate (ok2 c d a b (val c d + val a b)) (loO (val c d + val a b)) && true))) (K (Value.bool false))
 (bcase (pick (two a b c d) (pick (F120 (val a b + val c d)) 0 5) 1 != pick (two c d a b) (pick (F120 (val c d + val a b)) 0 5) 1) (K (Value.bool false))
 (bcase (pick (two a b c d) (pick (F120 (val a b + val c d)) 0 5) 1 != 0) (bcase (pick (two a b c d) (pick (F120 (val a b + val c d)) 0 5) 1 == 5) (K (Value.bool (gate (ok2 a b c d (val a b + val c d)) (hiO (val a b + val c d)) == 0 && (gate (ok2 a b c d (val a b + val c d)) (loO (val a b + val c d)) == 0 && true)))) (K (Value.bool false)))
 (True ∧
 True ∧
 True ∧
 bcase (pick (two (gate (ok2 a b c d (val a b + val c d)) (hiO (val a b + val c d))) (gate (ok2 a b c d (val a b + val c d)) (loO (val a b + val c d))) c d) (pick (F120 (val (gate (ok2 a b c d (val a b + val c d)) (hiO (val a b + val c d))) (gate (ok2 a b c d (val a b + val c d)) (loO (val a b + val c d))) - val c d)) 0 5) 1 == 0)
 (bcase
 (gate (ok2 (gate (ok2 a b c d (val a b + val c d)) (hiO (val a b + val c d))) (gate (ok2 a b c d (val a b + val c d)) (loO (val a b + val c d))) c d (val (gate (ok2 a b c d (val a b + val c d)) (hiO (val a b + val c d))) (gate (ok2 a b c d (val a b + val c d)) (loO (val a b + val c d))) - val c d))
 (hiO (val (gate (ok2 a b c d (val a b + val c d)) (hiO (val a b + val c d))) (gate (ok2 a b c d (val a b + val c d)) (loO (val a b + val c d))) - val c d)) ==
 a &&
 (gate (ok2 (gate (ok2 a b c d (val a b + val c d)) (hiO (val a b + val c d))) (gate (ok2 a b c d (val a b + val c d)) (loO (val a b + val c d))) c d (val (gate (ok2 a b c d (val a b + val c d)) (hiO (val a b + val c d))) (gate (ok2 a b c d (val a b + val c d)) (loO (val a b + val c d))) - val c d))
 (loO (val (gate (ok2 a b c d (val a b + val c d)) (hiO (val a b + val c d))) (gate (ok2 a b c d (val a b + val c d)) (loO (val a b + val c d))) - val c d)) ==
 b &&
 true))
 (bcase (pick (two (gate (ok2 a b c d (val a b + val c d)) (hiO (val a b + val c d))) (gate (ok2 a b c d (val a b + val c d)) (loO (val a b + val c d))) a b) 0 1 == 0)
 (bcase (pick (two c d 0 0) 0 1 == 0)
 (K (Value.bool (gate (two (gate (ok2 a b c d (val a b + val c d)) (hiO (val a b + val c d))) (gate (ok2 a b c d (val a b + val c d)) (loO (val a b + val c d))) a b) (ordI (val (gate (ok2 a b c d (val a b + val c d)) (hiO (val a b + val c d))) (gate (ok2 a b c d (val a b + val c d)) (loO (val a b + val c d)))) (val a b)) == gate (two c d 0 0) (ordI (val c d) (val 0 0))))) (K (Value.bool false)))
 (K (Value.bool false)))
 (K (Value.bool false)))
 (K (Value.bool false))))))))))))))) := by kernel_rfl
end Go.Proofs.Ytmghbedgfnlpoaa
