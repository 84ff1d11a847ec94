/- What reading texts of angles asks. -/
import Derived.Test.YtkcelhhhbbpbpaaDoorParS
namespace Go.Proofs.YtkcelhhhbbpbpaaDoor
open Go Go.Abs Go.RowKit
set_option linter.unusedVariables false
set_option linter.unusedSimpArgs false
theorem vc_digits (s : ByteArray) (l : List UInt8) (K : Value → Prop) : callsX Tryd.prog ([]) (ADg l) 61 [.string s] K = (
 ∃ (s_1 : Nat),
 (s = s ∧ 0 = dcI l s_1 ∧ s.size = s.size ∧ (↑s.size : Int) = (↑s.size : Int) ∧ 0 = (↑s_1 : Int) ∧ bytesV s = bytesV s ∧ True) ∧
 AllDg l s_1 ∧
 ∀ (s_2 : Nat),
 AllDg l s_2 →
 bcase (decide ((↑s_2 : Int) < (↑s.size : Int)))
 (bcase (inB (↑s_2 : Int) s.size)
 (bcase ((↑s_2 : Int).toNat.blt (bytesV s).length)
 (bcase (decide ((bytesV s).getD (↑s_2 : Int).toNat 0 < 48)) (K (Value.tuple #[Value.int IntKind.i64 0, Value.bool false]))
 (bcase (decide ((bytesV s).getD (↑s_2 : Int).toNat 0 > 57)) (K (Value.tuple #[Value.int IntKind.i64 0, Value.bool false]))
 (∃ (s_3 : Nat),
 (s = s ∧
 (if 1125899906842624 < IntKind.i64.wrap (IntKind.i64.wrap (10 * dcI l s_2) + IntKind.i64.wrap (IntKind.u8.wrap ((bytesV s).getD (↑s_2 : Int).toNat 0 - 48))) then 1125899906842624 else IntKind.i64.wrap (IntKind.i64.wrap (10 * dcI l s_2) + IntKind.i64.wrap (IntKind.u8.wrap ((bytesV s).getD (↑s_2 : Int).toNat 0 - 48)))) = dcI l s_3 ∧
 s.size = s.size ∧ (↑s.size : Int) = (↑s.size : Int) ∧ IntKind.i64.wrap ((↑s_2 : Int) + 1) = (↑s_3 : Int) ∧ bytesV s = bytesV s ∧ True) ∧
 AllDg l s_3 ∧ l.length - s_3 < l.length - s_2)))
 False)
 False)
 (K (Value.tuple #[Value.int IntKind.i64 (dcI l s_2), Value.bool !s.toList == []]))) := by kernel_rfl
theorem vc_parse5 (s : ByteArray) (tp cw cp : ByteArray → ByteArray → ByteArray) (mi co : ByteArray → ByteArray → Bool) (dg : ByteArray → Int) (ok : ByteArray → Bool) (K : Value → Prop) : callsX Tryd.prog (ΓPs tp cw cp mi co dg ok) (APs) 49 [.string s] K = (
 SL s ∧
 SL (tp s (ByteArray.mk #[45])) ∧
 SL (cp (tp s (ByteArray.mk #[45])) (ByteArray.mk #[45])) ∧
 SL (cw (tp s (ByteArray.mk #[45])) (ByteArray.mk #[45])) ∧
 SL (cw (cp (tp s (ByteArray.mk #[45])) (ByteArray.mk #[45])) (ByteArray.mk #[46])) ∧
 bcase (co (cp (tp s (ByteArray.mk #[45])) (ByteArray.mk #[45])) (ByteArray.mk #[46]))
 (SL (cp (cp (tp s (ByteArray.mk #[45])) (ByteArray.mk #[45])) (ByteArray.mk #[46])) ∧
 bcase (!ok (cp (cp (tp s (ByteArray.mk #[45])) (ByteArray.mk #[45])) (ByteArray.mk #[46]))) (K (Value.tuple #[Value.int IntKind.i64 0, Value.int IntKind.i64 7]))
 (bcase (decide ((↑(cp (cp (tp s (ByteArray.mk #[45])) (ByteArray.mk #[45])) (ByteArray.mk #[46])).size : Int) > 3)) (K (Value.tuple #[Value.int IntKind.i64 0, Value.int IntKind.i64 7]))
 (∃ (s_1 : Nat),
 (s = s ∧
 tp s (ByteArray.mk #[45]) = tp s (ByteArray.mk #[45]) ∧
 mi s (ByteArray.mk #[45]) = mi s (ByteArray.mk #[45]) ∧
 cw (tp s (ByteArray.mk #[45])) (ByteArray.mk #[45]) = cw (tp s (ByteArray.mk #[45])) (ByteArray.mk #[45]) ∧
 cp (tp s (ByteArray.mk #[45])) (ByteArray.mk #[45]) = cp (tp s (ByteArray.mk #[45])) (ByteArray.mk #[45]) ∧
 co (tp s (ByteArray.mk #[45])) (ByteArray.mk #[45]) = co (tp s (ByteArray.mk #[45])) (ByteArray.mk #[45]) ∧
 cw (cp (tp s (ByteArray.mk #[45])) (ByteArray.mk #[45])) (ByteArray.mk #[46]) = cw (cp (tp s (ByteArray.mk #[45])) (ByteArray.mk #[45])) (ByteArray.mk #[46]) ∧
 cp (cp (tp s (ByteArray.mk #[45])) (ByteArray.mk #[45])) (ByteArray.mk #[46]) = cp (cp (tp s (ByteArray.mk #[45])) (ByteArray.mk #[45])) (ByteArray.mk #[46]) ∧
 co (cp (tp s (ByteArray.mk #[45])) (ByteArray.mk #[45])) (ByteArray.mk #[46]) = co (cp (tp s (ByteArray.mk #[45])) (ByteArray.mk #[45])) (ByteArray.mk #[46]) ∧
 dg (cw (tp s (ByteArray.mk #[45])) (ByteArray.mk #[45])) = dg (cw (tp s (ByteArray.mk #[45])) (ByteArray.mk #[45])) ∧
 ok (cw (tp s (ByteArray.mk #[45])) (ByteArray.mk #[45])) = ok (cw (tp s (ByteArray.mk #[45])) (ByteArray.mk #[45])) ∧
 dg (cw (cp (tp s (ByteArray.mk #[45])) (ByteArray.mk #[45])) (ByteArray.mk #[46])) = dg (cw (cp (tp s (ByteArray.mk #[45])) (ByteArray.mk #[45])) (ByteArray.mk #[46])) ∧
 ok (cw (cp (tp s (ByteArray.mk #[45])) (ByteArray.mk #[45])) (ByteArray.mk #[46])) = ok (cw (cp (tp s (ByteArray.mk #[45])) (ByteArray.mk #[45])) (ByteArray.mk #[46])) ∧
 dg (cp (cp (tp s (ByteArray.mk #[45])) (ByteArray.mk #[45])) (ByteArray.mk #[46])) = tenI (dg (cp (cp (tp s (ByteArray.mk #[45])) (ByteArray.mk #[45])) (ByteArray.mk #[46]))) s_1 ∧
 IntKind.i64.wrap (3 - (↑(cp (cp (tp s (ByteArray.mk #[45])) (ByteArray.mk #[45])) (ByteArray.mk #[46])).size : Int)) = IntKind.i64.wrap (3 - (↑(cp (cp (tp s (ByteArray.mk #[45])) (ByteArray.mk #[45])) (ByteArray.mk #[46])).size : Int)) ∧ 0 = (↑s_1 : Int) ∧ True) ∧
 (IntKind.i64.wrap (3 - (↑(cp (cp (tp s (ByteArray.mk #[45])) (ByteArray.mk #[45])) (ByteArray.mk #[46])).size : Int)) - (↑s_1 : Int)).NonNeg ∧
 ∀ (s_2 : Nat),
 (IntKind.i64.wrap (3 - (↑(cp (cp (tp s (ByteArray.mk #[45])) (ByteArray.mk #[45])) (ByteArray.mk #[46])).size : Int)) - (↑s_2 : Int)).NonNeg →
 bcase (decide ((↑s_2 : Int) < IntKind.i64.wrap (3 - (↑(cp (cp (tp s (ByteArray.mk #[45])) (ByteArray.mk #[45])) (ByteArray.mk #[46])).size : Int))))
 (∃ (s_3 : Nat),
 (s = s ∧
 tp s (ByteArray.mk #[45]) = tp s (ByteArray.mk #[45]) ∧
 mi s (ByteArray.mk #[45]) = mi s (ByteArray.mk #[45]) ∧
 cw (tp s (ByteArray.mk #[45])) (ByteArray.mk #[45]) = cw (tp s (ByteArray.mk #[45])) (ByteArray.mk #[45]) ∧
 cp (tp s (ByteArray.mk #[45])) (ByteArray.mk #[45]) = cp (tp s (ByteArray.mk #[45])) (ByteArray.mk #[45]) ∧
 co (tp s (ByteArray.mk #[45])) (ByteArray.mk #[45]) = co (tp s (ByteArray.mk #[45])) (ByteArray.mk #[45]) ∧
 cw (cp (tp s (ByteArray.mk #[45])) (ByteArray.mk #[45])) (ByteArray.mk #[46]) = cw (cp (tp s (ByteArray.mk #[45])) (ByteArray.mk #[45])) (ByteArray.mk #[46]) ∧
 cp (cp (tp s (ByteArray.mk #[45])) (ByteArray.mk #[45])) (ByteArray.mk #[46]) = cp (cp (tp s (ByteArray.mk #[45])) (ByteArray.mk #[45])) (ByteArray.mk #[46]) ∧
 co (cp (tp s (ByteArray.mk #[45])) (ByteArray.mk #[45])) (ByteArray.mk #[46]) = co (cp (tp s (ByteArray.mk #[45])) (ByteArray.mk #[45])) (ByteArray.mk #[46]) ∧
 dg (cw (tp s (ByteArray.mk #[45])) (ByteArray.mk #[45])) = dg (cw (tp s (ByteArray.mk #[45])) (ByteArray.mk #[45])) ∧
 ok (cw (tp s (ByteArray.mk #[45])) (ByteArray.mk #[45])) = ok (cw (tp s (ByteArray.mk #[45])) (ByteArray.mk #[45])) ∧
 dg (cw (cp (tp s (ByteArray.mk #[45])) (ByteArray.mk #[45])) (ByteArray.mk #[46])) = dg (cw (cp (tp s (ByteArray.mk #[45])) (ByteArray.mk #[45])) (ByteArray.mk #[46])) ∧
 ok (cw (cp (tp s (ByteArray.mk #[45])) (ByteArray.mk #[45])) (ByteArray.mk #[46])) = ok (cw (cp (tp s (ByteArray.mk #[45])) (ByteArray.mk #[45])) (ByteArray.mk #[46])) ∧
 IntKind.i64.wrap (tenI (dg (cp (cp (tp s (ByteArray.mk #[45])) (ByteArray.mk #[45])) (ByteArray.mk #[46]))) s_2 * 10) = tenI (dg (cp (cp (tp s (ByteArray.mk #[45])) (ByteArray.mk #[45])) (ByteArray.mk #[46]))) s_3 ∧
 IntKind.i64.wrap (3 - (↑(cp (cp (tp s (ByteArray.mk #[45])) (ByteArray.mk #[45])) (ByteArray.mk #[46])).size : Int)) = IntKind.i64.wrap (3 - (↑(cp (cp (tp s (ByteArray.mk #[45])) (ByteArray.mk #[45])) (ByteArray.mk #[46])).size : Int)) ∧ IntKind.i64.wrap ((↑s_2 : Int) + 1) = (↑s_3 : Int) ∧ True) ∧
 (IntKind.i64.wrap (3 - (↑(cp (cp (tp s (ByteArray.mk #[45])) (ByteArray.mk #[45])) (ByteArray.mk #[46])).size : Int)) - (↑s_3 : Int)).NonNeg ∧
 (IntKind.i64.wrap (3 - (↑(cp (cp (tp s (ByteArray.mk #[45])) (ByteArray.mk #[45])) (ByteArray.mk #[46])).size : Int))).toNat - s_3 < (IntKind.i64.wrap (3 - (↑(cp (cp (tp s (ByteArray.mk #[45])) (ByteArray.mk #[45])) (ByteArray.mk #[46])).size : Int))).toNat - s_2)
 (bcase (!co (tp s (ByteArray.mk #[45])) (ByteArray.mk #[45])) (K (Value.tuple #[Value.int IntKind.i64 0, Value.int IntKind.i64 7]))
 (bcase (!ok (cw (tp s (ByteArray.mk #[45])) (ByteArray.mk #[45]))) (K (Value.tuple #[Value.int IntKind.i64 0, Value.int IntKind.i64 7]))
 (bcase (!ok (cw (cp (tp s (ByteArray.mk #[45])) (ByteArray.mk #[45])) (ByteArray.mk #[46]))) (K (Value.tuple #[Value.int IntKind.i64 0, Value.int IntKind.i64 7]))
 (bcase (decide ((↑(cw (tp s (ByteArray.mk #[45])) (ByteArray.mk #[45])).size : Int) > 1))
 (bcase (inB 0 (cw (tp s (ByteArray.mk #[45])) (ByteArray.mk #[45])).size)
 (bcase ((↑((cw (tp s (ByteArray.mk #[45])) (ByteArray.mk #[45])).get! 0).toNat : Int) == 48) (K (Value.tuple #[Value.int IntKind.i64 0, Value.int IntKind.i64 7]))
 (bcase ((↑(cw (cp (tp s (ByteArray.mk #[45])) (ByteArray.mk #[45])) (ByteArray.mk #[46])).size : Int) != 2) (K (Value.tuple #[Value.int IntKind.i64 0, Value.int IntKind.i64 7]))
 (bcase (decide (dg (cw (cp (tp s (ByteArray.mk #[45])) (ByteArray.mk #[45])) (ByteArray.mk #[46])) ≥ 60)) (K (Value.tuple #[Value.int IntKind.i64 0, Value.int IntKind.i64 7]))
 (bcase (decide (dg (cw (tp s (ByteArray.mk #[45])) (ByteArray.mk #[45])) > 1099511627776)) (K (Value.tuple #[Value.int IntKind.i64 0, Value.int IntKind.i64 5]))
 (bcase (decide (IntKind.i64.wrap (IntKind.i64.wrap (IntKind.i64.wrap (dg (cw (tp s (ByteArray.mk #[45])) (ByteArray.mk #[45])) * 60000) + IntKind.i64.wrap (dg (cw (cp (tp s (ByteArray.mk #[45])) (ByteArray.mk #[45])) (ByteArray.mk #[46])) * 1000)) + tenI (dg (cp (cp (tp s (ByteArray.mk #[45])) (ByteArray.mk #[45])) (ByteArray.mk #[46]))) s_2) ≥ -1099511627776))
 (bcase (!decide (IntKind.i64.wrap (IntKind.i64.wrap (IntKind.i64.wrap (dg (cw (tp s (ByteArray.mk #[45])) (ByteArray.mk #[45])) * 60000) + IntKind.i64.wrap (dg (cw (cp (tp s (ByteArray.mk #[45])) (ByteArray.mk #[45])) (ByteArray.mk #[46])) * 1000)) + tenI (dg (cp (cp (tp s (ByteArray.mk #[45])) (ByteArray.mk #[45])) (ByteArray.mk #[46]))) s_2) ≤ 1099511627776))
 (K (Value.tuple #[Value.int IntKind.i64 0, Value.int IntKind.i64 5]))
 (bcase (mi s (ByteArray.mk #[45]))
 (K
 (Value.tuple
 #[Value.int IntKind.i64 (IntKind.i64.wrap (0 - IntKind.i64.wrap (IntKind.i64.wrap (IntKind.i64.wrap (dg (cw (tp s (ByteArray.mk #[45])) (ByteArray.mk #[45])) * 60000) + IntKind.i64.wrap (dg (cw (cp (tp s (ByteArray.mk #[45])) (ByteArray.mk #[45])) (ByteArray.mk #[46])) * 1000)) + tenI (dg (cp (cp (tp s (ByteArray.mk #[45])) (ByteArray.mk #[45])) (ByteArray.mk #[46]))) s_2))),
 Value.int IntKind.i64 0]))
 (K (Value.tuple #[Value.int IntKind.i64 (IntKind.i64.wrap (IntKind.i64.wrap (IntKind.i64.wrap (dg (cw (tp s (ByteArray.mk #[45])) (ByteArray.mk #[45])) * 60000) + IntKind.i64.wrap (dg (cw (cp (tp s (ByteArray.mk #[45])) (ByteArray.mk #[45])) (ByteArray.mk #[46])) * 1000)) + tenI (dg (cp (cp (tp s (ByteArray.mk #[45])) (ByteArray.mk #[45])) (ByteArray.mk #[46]))) s_2)), Value.int IntKind.i64 0]))))
 (K (Value.tuple #[Value.int IntKind.i64 0, Value.int IntKind.i64 5])))))))
 False)
 (bcase ((↑(cw (cp (tp s (ByteArray.mk #[45])) (ByteArray.mk #[45])) (ByteArray.mk #[46])).size : Int) != 2) (K (Value.tuple #[Value.int IntKind.i64 0, Value.int IntKind.i64 7]))
 (bcase (decide (dg (cw (cp (tp s (ByteArray.mk #[45])) (ByteArray.mk #[45])) (ByteArray.mk #[46])) ≥ 60)) (K (Value.tuple #[Value.int IntKind.i64 0, Value.int IntKind.i64 7]))
 (bcase (decide (dg (cw (tp s (ByteArray.mk #[45])) (ByteArray.mk #[45])) > 1099511627776)) (K (Value.tuple #[Value.int IntKind.i64 0, Value.int IntKind.i64 5]))
 (bcase (decide (IntKind.i64.wrap (IntKind.i64.wrap (IntKind.i64.wrap (dg (cw (tp s (ByteArray.mk #[45])) (ByteArray.mk #[45])) * 60000) + IntKind.i64.wrap (dg (cw (cp (tp s (ByteArray.mk #[45])) (ByteArray.mk #[45])) (ByteArray.mk #[46])) * 1000)) + tenI (dg (cp (cp (tp s (ByteArray.mk #[45])) (ByteArray.mk #[45])) (ByteArray.mk #[46]))) s_2) ≥ -1099511627776))
 (bcase (!decide (IntKind.i64.wrap (IntKind.i64.wrap (IntKind.i64.wrap (dg (cw (tp s (ByteArray.mk #[45])) (ByteArray.mk #[45])) * 60000) + IntKind.i64.wrap (dg (cw (cp (tp s (ByteArray.mk #[45])) (ByteArray.mk #[45])) (ByteArray.mk #[46])) * 1000)) + tenI (dg (cp (cp (tp s (ByteArray.mk #[45])) (ByteArray.mk #[45])) (ByteArray.mk #[46]))) s_2) ≤ 1099511627776))
 (K (Value.tuple #[Value.int IntKind.i64 0, Value.int IntKind.i64 5]))
 (bcase (mi s (ByteArray.mk #[45]))
 (K
 (Value.tuple
 #[Value.int IntKind.i64 (IntKind.i64.wrap (0 - IntKind.i64.wrap (IntKind.i64.wrap (IntKind.i64.wrap (dg (cw (tp s (ByteArray.mk #[45])) (ByteArray.mk #[45])) * 60000) + IntKind.i64.wrap (dg (cw (cp (tp s (ByteArray.mk #[45])) (ByteArray.mk #[45])) (ByteArray.mk #[46])) * 1000)) + tenI (dg (cp (cp (tp s (ByteArray.mk #[45])) (ByteArray.mk #[45])) (ByteArray.mk #[46]))) s_2))),
 Value.int IntKind.i64 0]))
 (K (Value.tuple #[Value.int IntKind.i64 (IntKind.i64.wrap (IntKind.i64.wrap (IntKind.i64.wrap (dg (cw (tp s (ByteArray.mk #[45])) (ByteArray.mk #[45])) * 60000) + IntKind.i64.wrap (dg (cw (cp (tp s (ByteArray.mk #[45])) (ByteArray.mk #[45])) (ByteArray.mk #[46])) * 1000)) + tenI (dg (cp (cp (tp s (ByteArray.mk #[45])) (ByteArray.mk #[45])) (ByteArray.mk #[46]))) s_2)), Value.int IntKind.i64 0]))))
 (K (Value.tuple #[Value.int IntKind.i64 0, Value.int IntKind.i64 5])))))))))))))
 (bcase (!co (tp s (ByteArray.mk #[45])) (ByteArray.mk #[45])) (K (Value.tuple #[Value.int IntKind.i64 0, Value.int IntKind.i64 7]))
 (bcase (!ok (cw (tp s (ByteArray.mk #[45])) (ByteArray.mk #[45]))) (K (Value.tuple #[Value.int IntKind.i64 0, Value.int IntKind.i64 7]))
 (bcase (!ok (cw (cp (tp s (ByteArray.mk #[45])) (ByteArray.mk #[45])) (ByteArray.mk #[46]))) (K (Value.tuple #[Value.int IntKind.i64 0, Value.int IntKind.i64 7]))
 (bcase (decide ((↑(cw (tp s (ByteArray.mk #[45])) (ByteArray.mk #[45])).size : Int) > 1))
 (bcase (inB 0 (cw (tp s (ByteArray.mk #[45])) (ByteArray.mk #[45])).size)
 (bcase ((↑((cw (tp s (ByteArray.mk #[45])) (ByteArray.mk #[45])).get! 0).toNat : Int) == 48) (K (Value.tuple #[Value.int IntKind.i64 0, Value.int IntKind.i64 7]))
 (bcase ((↑(cw (cp (tp s (ByteArray.mk #[45])) (ByteArray.mk #[45])) (ByteArray.mk #[46])).size : Int) != 2) (K (Value.tuple #[Value.int IntKind.i64 0, Value.int IntKind.i64 7]))
 (bcase (decide (dg (cw (cp (tp s (ByteArray.mk #[45])) (ByteArray.mk #[45])) (ByteArray.mk #[46])) ≥ 60)) (K (Value.tuple #[Value.int IntKind.i64 0, Value.int IntKind.i64 7]))
 (bcase (decide (dg (cw (tp s (ByteArray.mk #[45])) (ByteArray.mk #[45])) > 1099511627776)) (K (Value.tuple #[Value.int IntKind.i64 0, Value.int IntKind.i64 5]))
 (bcase (decide (IntKind.i64.wrap (IntKind.i64.wrap (IntKind.i64.wrap (dg (cw (tp s (ByteArray.mk #[45])) (ByteArray.mk #[45])) * 60000) + IntKind.i64.wrap (dg (cw (cp (tp s (ByteArray.mk #[45])) (ByteArray.mk #[45])) (ByteArray.mk #[46])) * 1000)) + 0) ≥ -1099511627776))
 (bcase (!decide (IntKind.i64.wrap (IntKind.i64.wrap (IntKind.i64.wrap (dg (cw (tp s (ByteArray.mk #[45])) (ByteArray.mk #[45])) * 60000) + IntKind.i64.wrap (dg (cw (cp (tp s (ByteArray.mk #[45])) (ByteArray.mk #[45])) (ByteArray.mk #[46])) * 1000)) + 0) ≤ 1099511627776)) (K (Value.tuple #[Value.int IntKind.i64 0, Value.int IntKind.i64 5]))
 (bcase (mi s (ByteArray.mk #[45])) (K (Value.tuple #[Value.int IntKind.i64 (IntKind.i64.wrap (0 - IntKind.i64.wrap (IntKind.i64.wrap (IntKind.i64.wrap (dg (cw (tp s (ByteArray.mk #[45])) (ByteArray.mk #[45])) * 60000) + IntKind.i64.wrap (dg (cw (cp (tp s (ByteArray.mk #[45])) (ByteArray.mk #[45])) (ByteArray.mk #[46])) * 1000)) + 0))), Value.int IntKind.i64 0]))
 (K (Value.tuple #[Value.int IntKind.i64 (IntKind.i64.wrap (IntKind.i64.wrap (IntKind.i64.wrap (dg (cw (tp s (ByteArray.mk #[45])) (ByteArray.mk #[45])) * 60000) + IntKind.i64.wrap (dg (cw (cp (tp s (ByteArray.mk #[45])) (ByteArray.mk #[45])) (ByteArray.mk #[46])) * 1000)) + 0)), Value.int IntKind.i64 0]))))
 (K (Value.tuple #[Value.int IntKind.i64 0, Value.int IntKind.i64 5])))))))
 False)
 (bcase ((↑(cw (cp (tp s (ByteArray.mk #[45])) (ByteArray.mk #[45])) (ByteArray.mk #[46])).size : Int) != 2) (K (Value.tuple #[Value.int IntKind.i64 0, Value.int IntKind.i64 7]))
 (bcase (decide (dg (cw (cp (tp s (ByteArray.mk #[45])) (ByteArray.mk #[45])) (ByteArray.mk #[46])) ≥ 60)) (K (Value.tuple #[Value.int IntKind.i64 0, Value.int IntKind.i64 7]))
 (bcase (decide (dg (cw (tp s (ByteArray.mk #[45])) (ByteArray.mk #[45])) > 1099511627776)) (K (Value.tuple #[Value.int IntKind.i64 0, Value.int IntKind.i64 5]))
 (bcase (decide (IntKind.i64.wrap (IntKind.i64.wrap (IntKind.i64.wrap (dg (cw (tp s (ByteArray.mk #[45])) (ByteArray.mk #[45])) * 60000) + IntKind.i64.wrap (dg (cw (cp (tp s (ByteArray.mk #[45])) (ByteArray.mk #[45])) (ByteArray.mk #[46])) * 1000)) + 0) ≥ -1099511627776))
 (bcase (!decide (IntKind.i64.wrap (IntKind.i64.wrap (IntKind.i64.wrap (dg (cw (tp s (ByteArray.mk #[45])) (ByteArray.mk #[45])) * 60000) + IntKind.i64.wrap (dg (cw (cp (tp s (ByteArray.mk #[45])) (ByteArray.mk #[45])) (ByteArray.mk #[46])) * 1000)) + 0) ≤ 1099511627776)) (K (Value.tuple #[Value.int IntKind.i64 0, Value.int IntKind.i64 5]))
 (bcase (mi s (ByteArray.mk #[45])) (K (Value.tuple #[Value.int IntKind.i64 (IntKind.i64.wrap (0 - IntKind.i64.wrap (IntKind.i64.wrap (IntKind.i64.wrap (dg (cw (tp s (ByteArray.mk #[45])) (ByteArray.mk #[45])) * 60000) + IntKind.i64.wrap (dg (cw (cp (tp s (ByteArray.mk #[45])) (ByteArray.mk #[45])) (ByteArray.mk #[46])) * 1000)) + 0))), Value.int IntKind.i64 0]))
 (K (Value.tuple #[Value.int IntKind.i64 (IntKind.i64.wrap (IntKind.i64.wrap (IntKind.i64.wrap (dg (cw (tp s (ByteArray.mk #[45])) (ByteArray.mk #[45])) * 60000) + IntKind.i64.wrap (dg (cw (cp (tp s (ByteArray.mk #[45])) (ByteArray.mk #[45])) (ByteArray.mk #[46])) * 1000)) + 0)), Value.int IntKind.i64 0]))))
 (K (Value.tuple #[Value.int IntKind.i64 0, Value.int IntKind.i64 5]))))))))))) := by kernel_rfl
end Go.Proofs.YtkcelhhhbbpbpaaDoor
