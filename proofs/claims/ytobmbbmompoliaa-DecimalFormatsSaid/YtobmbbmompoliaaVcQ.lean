/- What reading a number's own text asks. -/
import Derived.Test.YtobmbbmompoliaaSpecQ
namespace Go.Proofs.Ytobmbbmompoliaa
open Go Go.Abs Go.RowKit
set_option linter.unusedVariables false
set_option linter.unusedSimpArgs false
theorem vc_allD (s : ByteArray) (K : Value → Prop) : callsX Try.prog ([]) (AAllD s.data.toList.length) 25 [.string s, .func (.func 26) ⟨[]⟩ ⟨[]⟩] K = (
 ∃ (s_1 : Nat),
 (s = s ∧ Value.func (Fn.func 26) #[] #[] = Value.func (Fn.func 26) #[] #[] ∧ (↑s.size : Int) = (↑s.size : Int) ∧ 0 = (↑s_1 : Int) ∧ True) ∧
 s_1.le s.data.1.length ∧
 ∀ (s_2 : Nat),
 s_2.le s.data.1.length →
 bcase (decide ((↑s_2 : Int) < (↑s.size : Int)))
 (bcase (inB (↑s_2 : Int) s.size)
 (bcase (decide ((↑(s.get! (↑s_2 : Int).toNat).toNat : Int) ≥ 48))
 (bcase (!decide ((↑(s.get! (↑s_2 : Int).toNat).toNat : Int) ≤ 57)) (K (Value.bool false)) (∃ (s_3 : Nat), (s = s ∧ Value.func (Fn.func 26) #[] #[] = Value.func (Fn.func 26) #[] #[] ∧ (↑s.size : Int) = (↑s.size : Int) ∧ IntKind.i64.wrap ((↑s_2 : Int) + 1) = (↑s_3 : Int) ∧ True) ∧ s_3.le s.data.1.length ∧ s.data.1.length - s_3 < s.data.1.length - s_2)) (K (Value.bool false)))
 False)
 (K (Value.bool !s.toList == []))) := by kernel_rfl
theorem vc_parse (s b w p z : ByteArray) (mi po : Bool) (k : Int) (l : List UInt8) (K : Value → Prop) : callsX Try.prog (ΓPa b w p z mi po) (APar l) 10 [.string s, num k] K = (
 bcase (decide (k < 0)) (K (Value.tuple #[Value.int IntKind.i64 0, Value.int IntKind.i64 2]))
 (bcase (decide (k > 9)) (K (Value.tuple #[Value.int IntKind.i64 0, Value.int IntKind.i64 2]))
 (CP s (ByteArray.mk #[45]) b mi ∧
 CT b (ByteArray.mk #[46]) w p po ∧
 AllD w ∧
 bcase (decide ((↑w.size : Int) > 1))
 (bcase (inB 0 w.size)
 (bcase ((↑(w.get! 0).toNat : Int) == 48) (K (Value.tuple #[Value.int IntKind.i64 0, Value.int IntKind.i64 7]))
 (bcase po
 (AllD p ∧
 bcase (decide ((↑p.size : Int) > k)) (K (Value.tuple #[Value.int IntKind.i64 0, Value.int IntKind.i64 7]))
 (bcase (tooLong w p) False
 (RP (ByteArray.mk #[48]) (IntKind.i64.wrap (k - (↑p.size : Int))) z ∧
 bcase (tooLong (w ++ p) z) False
 (∃ (s_1 : Nat),
 (s = s ∧ k = k ∧ mi = mi ∧ 0 = decP l s_1 ∧ (w ++ p ++ z).size = (w ++ p ++ z).size ∧ (↑(w ++ p ++ z).size : Int) = (↑(w ++ p ++ z).size : Int) ∧ 0 = (↑s_1 : Int) ∧ bytesV (w ++ p ++ z) = bytesV (w ++ p ++ z) ∧ True) ∧
 s_1.le l.length ∧
 ∀ (s_2 : Nat),
 s_2.le l.length →
 bcase (decide ((↑s_2 : Int) < (↑(w ++ p ++ z).size : Int)))
 (bcase (inB (↑s_2 : Int) (w ++ p ++ z).size)
 (bcase ((↑s_2 : Int).toNat.blt (bytesV (w ++ p ++ z)).length)
 (bcase (decide (decP l s_2 > IntKind.i64.wrap ((IntKind.i64.wrap (1152921504606846976 - IntKind.i64.wrap (IntKind.u8.wrap ((bytesV (w ++ p ++ z)).getD (↑s_2 : Int).toNat 0 - 48)))).tdiv 10))) (K (Value.tuple #[Value.int IntKind.i64 0, Value.int IntKind.i64 5]))
 (∃ (s_3 : Nat),
 (s = s ∧ k = k ∧ mi = mi ∧ IntKind.i64.wrap (IntKind.i64.wrap (10 * decP l s_2) + IntKind.i64.wrap (IntKind.u8.wrap ((bytesV (w ++ p ++ z)).getD (↑s_2 : Int).toNat 0 - 48))) = decP l s_3 ∧ (w ++ p ++ z).size = (w ++ p ++ z).size ∧ (↑(w ++ p ++ z).size : Int) = (↑(w ++ p ++ z).size : Int) ∧ IntKind.i64.wrap ((↑s_2 : Int) + 1) = (↑s_3 : Int) ∧ bytesV (w ++ p ++ z) = bytesV (w ++ p ++ z) ∧ True) ∧
 s_3.le l.length ∧ l.length - s_3 < l.length - s_2))
 False)
 False)
 (bcase mi (K (Value.tuple #[Value.int IntKind.i64 (IntKind.i64.wrap (0 - decP l s_2)), Value.int IntKind.i64 0])) (K (Value.tuple #[Value.int IntKind.i64 (decP l s_2), Value.int IntKind.i64 0])))))))
 (bcase (tooLong w p) False
 (RP (ByteArray.mk #[48]) (IntKind.i64.wrap (k - (↑p.size : Int))) z ∧
 bcase (tooLong (w ++ p) z) False
 (∃ (s_1 : Nat),
 (s = s ∧ k = k ∧ mi = mi ∧ 0 = decP l s_1 ∧ (w ++ p ++ z).size = (w ++ p ++ z).size ∧ (↑(w ++ p ++ z).size : Int) = (↑(w ++ p ++ z).size : Int) ∧ 0 = (↑s_1 : Int) ∧ bytesV (w ++ p ++ z) = bytesV (w ++ p ++ z) ∧ True) ∧
 s_1.le l.length ∧
 ∀ (s_2 : Nat),
 s_2.le l.length →
 bcase (decide ((↑s_2 : Int) < (↑(w ++ p ++ z).size : Int)))
 (bcase (inB (↑s_2 : Int) (w ++ p ++ z).size)
 (bcase ((↑s_2 : Int).toNat.blt (bytesV (w ++ p ++ z)).length)
 (bcase (decide (decP l s_2 > IntKind.i64.wrap ((IntKind.i64.wrap (1152921504606846976 - IntKind.i64.wrap (IntKind.u8.wrap ((bytesV (w ++ p ++ z)).getD (↑s_2 : Int).toNat 0 - 48)))).tdiv 10))) (K (Value.tuple #[Value.int IntKind.i64 0, Value.int IntKind.i64 5]))
 (∃ (s_3 : Nat),
 (s = s ∧ k = k ∧ mi = mi ∧ IntKind.i64.wrap (IntKind.i64.wrap (10 * decP l s_2) + IntKind.i64.wrap (IntKind.u8.wrap ((bytesV (w ++ p ++ z)).getD (↑s_2 : Int).toNat 0 - 48))) = decP l s_3 ∧ (w ++ p ++ z).size = (w ++ p ++ z).size ∧ (↑(w ++ p ++ z).size : Int) = (↑(w ++ p ++ z).size : Int) ∧ IntKind.i64.wrap ((↑s_2 : Int) + 1) = (↑s_3 : Int) ∧ bytesV (w ++ p ++ z) = bytesV (w ++ p ++ z) ∧ True) ∧
 s_3.le l.length ∧ l.length - s_3 < l.length - s_2))
 False)
 False)
 (bcase mi (K (Value.tuple #[Value.int IntKind.i64 (IntKind.i64.wrap (0 - decP l s_2)), Value.int IntKind.i64 0])) (K (Value.tuple #[Value.int IntKind.i64 (decP l s_2), Value.int IntKind.i64 0]))))))))
 False)
 (bcase po
 (AllD p ∧
 bcase (decide ((↑p.size : Int) > k)) (K (Value.tuple #[Value.int IntKind.i64 0, Value.int IntKind.i64 7]))
 (bcase (tooLong w p) False
 (RP (ByteArray.mk #[48]) (IntKind.i64.wrap (k - (↑p.size : Int))) z ∧
 bcase (tooLong (w ++ p) z) False
 (∃ (s_1 : Nat),
 (s = s ∧ k = k ∧ mi = mi ∧ 0 = decP l s_1 ∧ (w ++ p ++ z).size = (w ++ p ++ z).size ∧ (↑(w ++ p ++ z).size : Int) = (↑(w ++ p ++ z).size : Int) ∧ 0 = (↑s_1 : Int) ∧ bytesV (w ++ p ++ z) = bytesV (w ++ p ++ z) ∧ True) ∧
 s_1.le l.length ∧
 ∀ (s_2 : Nat),
 s_2.le l.length →
 bcase (decide ((↑s_2 : Int) < (↑(w ++ p ++ z).size : Int)))
 (bcase (inB (↑s_2 : Int) (w ++ p ++ z).size)
 (bcase ((↑s_2 : Int).toNat.blt (bytesV (w ++ p ++ z)).length)
 (bcase (decide (decP l s_2 > IntKind.i64.wrap ((IntKind.i64.wrap (1152921504606846976 - IntKind.i64.wrap (IntKind.u8.wrap ((bytesV (w ++ p ++ z)).getD (↑s_2 : Int).toNat 0 - 48)))).tdiv 10))) (K (Value.tuple #[Value.int IntKind.i64 0, Value.int IntKind.i64 5]))
 (∃ (s_3 : Nat),
 (s = s ∧ k = k ∧ mi = mi ∧ IntKind.i64.wrap (IntKind.i64.wrap (10 * decP l s_2) + IntKind.i64.wrap (IntKind.u8.wrap ((bytesV (w ++ p ++ z)).getD (↑s_2 : Int).toNat 0 - 48))) = decP l s_3 ∧ (w ++ p ++ z).size = (w ++ p ++ z).size ∧ (↑(w ++ p ++ z).size : Int) = (↑(w ++ p ++ z).size : Int) ∧ IntKind.i64.wrap ((↑s_2 : Int) + 1) = (↑s_3 : Int) ∧ bytesV (w ++ p ++ z) = bytesV (w ++ p ++ z) ∧ True) ∧
 s_3.le l.length ∧ l.length - s_3 < l.length - s_2))
 False)
 False)
 (bcase mi (K (Value.tuple #[Value.int IntKind.i64 (IntKind.i64.wrap (0 - decP l s_2)), Value.int IntKind.i64 0])) (K (Value.tuple #[Value.int IntKind.i64 (decP l s_2), Value.int IntKind.i64 0])))))))
 (bcase (tooLong w p) False
 (RP (ByteArray.mk #[48]) (IntKind.i64.wrap (k - (↑p.size : Int))) z ∧
 bcase (tooLong (w ++ p) z) False
 (∃ (s_1 : Nat),
 (s = s ∧ k = k ∧ mi = mi ∧ 0 = decP l s_1 ∧ (w ++ p ++ z).size = (w ++ p ++ z).size ∧ (↑(w ++ p ++ z).size : Int) = (↑(w ++ p ++ z).size : Int) ∧ 0 = (↑s_1 : Int) ∧ bytesV (w ++ p ++ z) = bytesV (w ++ p ++ z) ∧ True) ∧
 s_1.le l.length ∧
 ∀ (s_2 : Nat),
 s_2.le l.length →
 bcase (decide ((↑s_2 : Int) < (↑(w ++ p ++ z).size : Int)))
 (bcase (inB (↑s_2 : Int) (w ++ p ++ z).size)
 (bcase ((↑s_2 : Int).toNat.blt (bytesV (w ++ p ++ z)).length)
 (bcase (decide (decP l s_2 > IntKind.i64.wrap ((IntKind.i64.wrap (1152921504606846976 - IntKind.i64.wrap (IntKind.u8.wrap ((bytesV (w ++ p ++ z)).getD (↑s_2 : Int).toNat 0 - 48)))).tdiv 10))) (K (Value.tuple #[Value.int IntKind.i64 0, Value.int IntKind.i64 5]))
 (∃ (s_3 : Nat),
 (s = s ∧ k = k ∧ mi = mi ∧ IntKind.i64.wrap (IntKind.i64.wrap (10 * decP l s_2) + IntKind.i64.wrap (IntKind.u8.wrap ((bytesV (w ++ p ++ z)).getD (↑s_2 : Int).toNat 0 - 48))) = decP l s_3 ∧ (w ++ p ++ z).size = (w ++ p ++ z).size ∧ (↑(w ++ p ++ z).size : Int) = (↑(w ++ p ++ z).size : Int) ∧ IntKind.i64.wrap ((↑s_2 : Int) + 1) = (↑s_3 : Int) ∧ bytesV (w ++ p ++ z) = bytesV (w ++ p ++ z) ∧ True) ∧
 s_3.le l.length ∧ l.length - s_3 < l.length - s_2))
 False)
 False)
 (bcase mi (K (Value.tuple #[Value.int IntKind.i64 (IntKind.i64.wrap (0 - decP l s_2)), Value.int IntKind.i64 0])) (K (Value.tuple #[Value.int IntKind.i64 (decP l s_2), Value.int IntKind.i64 0])))))))))) := by kernel_rfl
theorem vc_formats (n k : Int) (K : Value → Prop) : callsX Try.prog (ΓFm) (noAnn) 3 [num n, num k] K = (
 True ∧
 True ∧
 bcase (decide (k < 0)) (bcase ((gateS (FOk n k) (fB n k)).toList == []) (K (Value.bool (erF n k == 2))) (K (Value.bool false)))
 (bcase (decide (k > 9)) (bcase ((gateS (FOk n k) (fB n k)).toList == []) (K (Value.bool (erF n k == 2))) (K (Value.bool false)))
 (True ∧ bcase (!decide (Fits n)) (bcase ((gateS (FOk n k) (fB n k)).toList == []) (K (Value.bool (erF n k == 5))) (K (Value.bool false))) (PF (gateS (FOk n k) (fB n k)) k ∧ bcase (erF n k == 0) (FOk n k ∧ bcase ((gateS (FOk n k) (fB n k)).toList == (fB n k).toList) (K (Value.bool (valF (gateS (FOk n k) (fB n k)) == n))) (K (Value.bool false))) (K (Value.bool false)))))) := by kernel_rfl
end Go.Proofs.Ytobmbbmompoliaa
