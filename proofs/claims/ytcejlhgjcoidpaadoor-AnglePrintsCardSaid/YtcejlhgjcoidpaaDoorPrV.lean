/- What the law of printed angles asks. -/
import Derived.Test.YtcejlhgjcoidpaaDoorPrS
namespace Go.Proofs.YtcejlhgjcoidpaaDoor
open Go Go.Abs Go.RowKit
set_option linter.unusedVariables false
set_option linter.unusedSimpArgs false
theorem vc_lawPrints (a b : Int) (ps : ByteArray → ByteArray → List ByteArray) (pr : Int → Int → ByteArray) (e1 e2 : Int → Int → Int) (pv pe : ByteArray → Int) (K : Value → Prop) : callsX Tryd.prog (ΓLP ps pr e1 e2 pv pe) (noAnn) 10 [arc a b] K = (
 True ∧
 True ∧
 bcase (decide (a ≤ b))
 (bcase (decide (a ≥ -1099511627776))
 (bcase (!decide (b ≤ 1099511627776)) (bcase ((pr a b).toList == []) (K (Value.bool (e1 a b == 1))) (K (Value.bool false)))
 (Val a b ∧
 bcase (!(pr a b).toList == (pr a b).toList) (K (Value.bool false))
 (bcase (e1 a b != e2 a b) (K (Value.bool false))
 (bcase (e1 a b != 0) (K (Value.bool true))
 (SpOk (pr a b) (ByteArray.mk #[32, 46, 46, 32]) ∧
 bcase (decide ((↑(ps (pr a b) (ByteArray.mk #[32, 46, 46, 32])).length : Int) < 1)) (K (Value.bool false))
 (bcase (decide ((↑(ps (pr a b) (ByteArray.mk #[32, 46, 46, 32])).length : Int) > 2)) (K (Value.bool false))
 (bcase (inB 0 (ps (pr a b) (ByteArray.mk #[32, 46, 46, 32])).length)
 (bcase (Nat.blt 0 (ps (pr a b) (ByteArray.mk #[32, 46, 46, 32])).length)
 (SL ((ps (pr a b) (ByteArray.mk #[32, 46, 46, 32])).getD 0 (ByteArray.mk #[])) ∧
 bcase (inB (IntKind.i64.wrap ((↑(ps (pr a b) (ByteArray.mk #[32, 46, 46, 32])).length : Int) - 1)) (ps (pr a b) (ByteArray.mk #[32, 46, 46, 32])).length)
 (bcase ((IntKind.i64.wrap ((↑(ps (pr a b) (ByteArray.mk #[32, 46, 46, 32])).length : Int) - 1)).toNat.blt (ps (pr a b) (ByteArray.mk #[32, 46, 46, 32])).length)
 (SL ((ps (pr a b) (ByteArray.mk #[32, 46, 46, 32])).getD (IntKind.i64.wrap ((↑(ps (pr a b) (ByteArray.mk #[32, 46, 46, 32])).length : Int) - 1)).toNat (ByteArray.mk #[])) ∧
 bcase (pe ((Row.mk ET.str (ps (pr a b) (ByteArray.mk #[32, 46, 46, 32])) false).xs.getD (bif Nat.beq 0 0 then Int.toNat 0 else 0 + Int.toNat 0) (Row.mk ET.str (ps (pr a b) (ByteArray.mk #[32, 46, 46, 32])) false).E.d) != 0) (K (Value.bool false))
 (bcase (pe ((Row.mk ET.str (ps (pr a b) (ByteArray.mk #[32, 46, 46, 32])) false).xs.getD (bif Nat.beq 0 0 then (IntKind.i64.wrap ((↑(ps (pr a b) (ByteArray.mk #[32, 46, 46, 32])).length : Int) - 1)).toNat else 0 + (IntKind.i64.wrap ((↑(ps (pr a b) (ByteArray.mk #[32, 46, 46, 32])).length : Int) - 1)).toNat) (Row.mk ET.str (ps (pr a b) (ByteArray.mk #[32, 46, 46, 32])) false).E.d) != 0)
 (K (Value.bool false))
 (bcase (decide (pv ((Row.mk ET.str (ps (pr a b) (ByteArray.mk #[32, 46, 46, 32])) false).xs.getD (bif Nat.beq 0 0 then Int.toNat 0 else 0 + Int.toNat 0) (Row.mk ET.str (ps (pr a b) (ByteArray.mk #[32, 46, 46, 32])) false).E.d) < -1099511627776)) (K (Value.bool false))
 (bcase
 (decide
 (pv ((Row.mk ET.str (ps (pr a b) (ByteArray.mk #[32, 46, 46, 32])) false).xs.getD (bif Nat.beq 0 0 then (IntKind.i64.wrap ((↑(ps (pr a b) (ByteArray.mk #[32, 46, 46, 32])).length : Int) - 1)).toNat else 0 + (IntKind.i64.wrap ((↑(ps (pr a b) (ByteArray.mk #[32, 46, 46, 32])).length : Int) - 1)).toNat) (Row.mk ET.str (ps (pr a b) (ByteArray.mk #[32, 46, 46, 32])) false).E.d) > 1099511627776))
 (K (Value.bool false))
 (bcase ((pv ((Row.mk ET.str (ps (pr a b) (ByteArray.mk #[32, 46, 46, 32])) false).xs.getD (bif Nat.beq 0 0 then Int.toNat 0 else 0 + Int.toNat 0) (Row.mk ET.str (ps (pr a b) (ByteArray.mk #[32, 46, 46, 32])) false).E.d)).tmod 100 == 0)
 (bcase ((pv ((Row.mk ET.str (ps (pr a b) (ByteArray.mk #[32, 46, 46, 32])) false).xs.getD (bif Nat.beq 0 0 then (IntKind.i64.wrap ((↑(ps (pr a b) (ByteArray.mk #[32, 46, 46, 32])).length : Int) - 1)).toNat else 0 + (IntKind.i64.wrap ((↑(ps (pr a b) (ByteArray.mk #[32, 46, 46, 32])).length : Int) - 1)).toNat) (Row.mk ET.str (ps (pr a b) (ByteArray.mk #[32, 46, 46, 32])) false).E.d)).tmod 100 == 0)
 (bcase (decide (IntKind.i64.wrap (a - pv ((Row.mk ET.str (ps (pr a b) (ByteArray.mk #[32, 46, 46, 32])) false).xs.getD (bif Nat.beq 0 0 then Int.toNat 0 else 0 + Int.toNat 0) (Row.mk ET.str (ps (pr a b) (ByteArray.mk #[32, 46, 46, 32])) false).E.d)) ≥ -50))
 (bcase (decide (IntKind.i64.wrap (a - pv ((Row.mk ET.str (ps (pr a b) (ByteArray.mk #[32, 46, 46, 32])) false).xs.getD (bif Nat.beq 0 0 then Int.toNat 0 else 0 + Int.toNat 0) (Row.mk ET.str (ps (pr a b) (ByteArray.mk #[32, 46, 46, 32])) false).E.d)) < 50))
 (bcase
 (decide
 (IntKind.i64.wrap (b - pv ((Row.mk ET.str (ps (pr a b) (ByteArray.mk #[32, 46, 46, 32])) false).xs.getD (bif Nat.beq 0 0 then (IntKind.i64.wrap ((↑(ps (pr a b) (ByteArray.mk #[32, 46, 46, 32])).length : Int) - 1)).toNat else 0 + (IntKind.i64.wrap ((↑(ps (pr a b) (ByteArray.mk #[32, 46, 46, 32])).length : Int) - 1)).toNat) (Row.mk ET.str (ps (pr a b) (ByteArray.mk #[32, 46, 46, 32])) false).E.d)) ≥
 -50))
 (K
 (Value.bool
 (decide
 (IntKind.i64.wrap (b - pv ((Row.mk ET.str (ps (pr a b) (ByteArray.mk #[32, 46, 46, 32])) false).xs.getD (bif Nat.beq 0 0 then (IntKind.i64.wrap ((↑(ps (pr a b) (ByteArray.mk #[32, 46, 46, 32])).length : Int) - 1)).toNat else 0 + (IntKind.i64.wrap ((↑(ps (pr a b) (ByteArray.mk #[32, 46, 46, 32])).length : Int) - 1)).toNat) (Row.mk ET.str (ps (pr a b) (ByteArray.mk #[32, 46, 46, 32])) false).E.d)) <
 50))))
 (K (Value.bool false)))
 (K (Value.bool false)))
 (K (Value.bool false)))
 (K (Value.bool false)))
 (K (Value.bool false)))))))
 False)
 False)
 False)
 False)))))))
 (bcase ((pr a b).toList == []) (K (Value.bool (e1 a b == 1))) (K (Value.bool false))))
 (bcase ((pr a b).toList == []) (K (Value.bool (e1 a b == 1))) (K (Value.bool false)))) := by kernel_rfl
end Go.Proofs.YtcejlhgjcoidpaaDoor
