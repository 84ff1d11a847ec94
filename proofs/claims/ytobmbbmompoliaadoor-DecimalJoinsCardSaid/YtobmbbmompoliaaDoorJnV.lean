/- Tokens are read again: what the law reckons, as the kernel says it. -/
import Derived.Test.YtobmbbmompoliaaDoorJnS
namespace Go.Proofs.YtobmbbmompoliaaDoor
open Go Go.Abs Go.RowKit
set_option linter.unusedVariables false
set_option maxRecDepth 100000
theorem vc_joins (s : ByteArray) (tl : ByteArray → List Tok) (tn tc te : ByteArray → Int) (sp : ByteArray → ByteArray → List ByteArray) (pf : ByteArray → ByteArray → Bool) (bo : List Int → ByteArray) : rcallsX Tryd.prog (ΓJn tl tn tc te sp pf bo) (AJn (tl s)) 3 [oneV (.string s)] [oneV (.bool true)] = (
 True ∧
 bcase (decide ((↑s.size : Int) > 400)) (Value.bool true = Value.bool true ∧ True)
 (True ∧
 bcase (te s != 0) (Value.bool ((↑(tl s).length : Int) == 0) = Value.bool true ∧ True)
 (bcase ((↑(tl s).length : Int) == 0) (Value.bool false = Value.bool true ∧ True)
 (bcase (inB (IntKind.i64.wrap ((↑(tl s).length : Int) - 1)) (tl s).length)
 (bcase ((IntKind.i64.wrap ((↑(tl s).length : Int) - 1)).toNat.blt (tl s).length)
 (bcase (((tl s).getD (IntKind.i64.wrap ((↑(tl s).length : Int) - 1)).toNat (0, ByteArray.mk #[], 0, 0)).fst != 5) (Value.bool false = Value.bool true ∧ True)
 (SplOk s (ByteArray.mk #[10]) ∧
 (∀ (s_1 : List Int),
 JnI (tl s) (tl s).length s_1 →
 s_1.length = s_1.length ∧
 ByOk (asI (ET.int IntKind.u8) s_1) ∧
 True ∧
 bcase (te (bo (asI (Row.mk (ET.int IntKind.u8) s_1 true).t (Row.mk (ET.int IntKind.u8) s_1 true).xs)) != 0) (Value.bool false = Value.bool true ∧ True)
 (bcase ((↑(tl (bo (asI (Row.mk (ET.int IntKind.u8) s_1 true).t (Row.mk (ET.int IntKind.u8) s_1 true).xs))).length : Int) != (↑(tl s).length : Int)) (Value.bool false = Value.bool true ∧ True)
 (∃ (s_2 : Nat),
 ((tl s).length = (tl s).length ∧
 (tl (bo (asI (Row.mk (ET.int IntKind.u8) s_1 true).t (Row.mk (ET.int IntKind.u8) s_1 true).xs))).length = (tl (bo (asI (Row.mk (ET.int IntKind.u8) s_1 true).t (Row.mk (ET.int IntKind.u8) s_1 true).xs))).length ∧
 (tl s).length = (tl s).length ∧
 (↑(tl s).length : Int) = (↑(tl s).length : Int) ∧
 0 = (↑s_2 : Int) ∧
 tl s = tl s ∧
 tn s = tn s ∧
 tc s = tc s ∧
 sp s (ByteArray.mk #[10]) = sp s (ByteArray.mk #[10]) ∧
 s_1.length = s_1.length ∧
 tl (bo (asI (Row.mk (ET.int IntKind.u8) s_1 true).t (Row.mk (ET.int IntKind.u8) s_1 true).xs)) = tl (bo (asI (Row.mk (ET.int IntKind.u8) s_1 true).t (Row.mk (ET.int IntKind.u8) s_1 true).xs)) ∧
 tn (bo (asI (Row.mk (ET.int IntKind.u8) s_1 true).t (Row.mk (ET.int IntKind.u8) s_1 true).xs)) = tn (bo (asI (Row.mk (ET.int IntKind.u8) s_1 true).t (Row.mk (ET.int IntKind.u8) s_1 true).xs)) ∧ tc (bo (asI (Row.mk (ET.int IntKind.u8) s_1 true).t (Row.mk (ET.int IntKind.u8) s_1 true).xs)) = tc (bo (asI (Row.mk (ET.int IntKind.u8) s_1 true).t (Row.mk (ET.int IntKind.u8) s_1 true).xs)) ∧ True) ∧
 JmI (tl s).length s_2 ∧
 ∀ (s_3 : Nat),
 JmI (tl s).length s_3 →
 bcase (decide ((↑s_3 : Int) < (↑(tl s).length : Int)))
 (bcase (inB (↑s_3 : Int) (tl s).length)
 (bcase ((↑s_3 : Int).toNat.blt (tl s).length)
 (bcase (inB (↑s_3 : Int) (tl (bo (asI (Row.mk (ET.int IntKind.u8) s_1 true).t (Row.mk (ET.int IntKind.u8) s_1 true).xs))).length)
 (bcase ((↑s_3 : Int).toNat.blt (tl (bo (asI (Row.mk (ET.int IntKind.u8) s_1 true).t (Row.mk (ET.int IntKind.u8) s_1 true).xs))).length)
 (bcase (((tl s).getD (↑s_3 : Int).toNat (0, ByteArray.mk #[], 0, 0)).fst != ((tl (bo (asI (Row.mk (ET.int IntKind.u8) s_1 true).t (Row.mk (ET.int IntKind.u8) s_1 true).xs))).getD (↑s_3 : Int).toNat (0, ByteArray.mk #[], 0, 0)).fst) (Value.bool false = Value.bool true ∧ True)
 (bcase (inB (↑s_3 : Int) (tl s).length)
 (bcase ((↑s_3 : Int).toNat.blt (tl s).length)
 (bcase (inB (↑s_3 : Int) (tl (bo (asI (Row.mk (ET.int IntKind.u8) s_1 true).t (Row.mk (ET.int IntKind.u8) s_1 true).xs))).length)
 (bcase ((↑s_3 : Int).toNat.blt (tl (bo (asI (Row.mk (ET.int IntKind.u8) s_1 true).t (Row.mk (ET.int IntKind.u8) s_1 true).xs))).length)
 (bcase (!ByteArray.toList ((tl s).getD (↑s_3 : Int).toNat (0, ByteArray.mk #[], 0, 0)).snd.fst == ByteArray.toList ((tl (bo (asI (Row.mk (ET.int IntKind.u8) s_1 true).t (Row.mk (ET.int IntKind.u8) s_1 true).xs))).getD (↑s_3 : Int).toNat (0, ByteArray.mk #[], 0, 0)).snd.fst) (Value.bool false = Value.bool true ∧ True)
 (∃ (s_4 : Nat),
 ((tl s).length = (tl s).length ∧
 (tl (bo (asI (Row.mk (ET.int IntKind.u8) s_1 true).t (Row.mk (ET.int IntKind.u8) s_1 true).xs))).length = (tl (bo (asI (Row.mk (ET.int IntKind.u8) s_1 true).t (Row.mk (ET.int IntKind.u8) s_1 true).xs))).length ∧
 (tl s).length = (tl s).length ∧
 (↑(tl s).length : Int) = (↑(tl s).length : Int) ∧
 IntKind.i64.wrap ((↑s_3 : Int) + 1) = (↑s_4 : Int) ∧
 tl s = tl s ∧
 tn s = tn s ∧
 tc s = tc s ∧
 sp s (ByteArray.mk #[10]) = sp s (ByteArray.mk #[10]) ∧
 s_1.length = s_1.length ∧
 tl (bo (asI (Row.mk (ET.int IntKind.u8) s_1 true).t (Row.mk (ET.int IntKind.u8) s_1 true).xs)) = tl (bo (asI (Row.mk (ET.int IntKind.u8) s_1 true).t (Row.mk (ET.int IntKind.u8) s_1 true).xs)) ∧
 tn (bo (asI (Row.mk (ET.int IntKind.u8) s_1 true).t (Row.mk (ET.int IntKind.u8) s_1 true).xs)) = tn (bo (asI (Row.mk (ET.int IntKind.u8) s_1 true).t (Row.mk (ET.int IntKind.u8) s_1 true).xs)) ∧ tc (bo (asI (Row.mk (ET.int IntKind.u8) s_1 true).t (Row.mk (ET.int IntKind.u8) s_1 true).xs)) = tc (bo (asI (Row.mk (ET.int IntKind.u8) s_1 true).t (Row.mk (ET.int IntKind.u8) s_1 true).xs)) ∧ True) ∧
 JmI (tl s).length s_4 ∧ (tl s).length - s_4 < (tl s).length - s_3))
 False)
 False)
 False)
 False))
 False)
 False)
 False)
 False)
 (Value.bool true = Value.bool true ∧ True)))) ∧
 bcase (decide (0 < (↑(tl s).length : Int)))
 ((∀ (s_1 : List Int),
 JnI (tl s) (Int.toNat 0 + 1) s_1 →
 ∃ (s_2 : Nat × List Int),
 (s = s ∧ (tl s).length = (tl s).length ∧ (sp s (ByteArray.mk #[10])).length = (sp s (ByteArray.mk #[10])).length ∧ (tl s).length = (tl s).length ∧ (↑(tl s).length : Int) = (↑(tl s).length : Int) ∧ IntKind.i64.wrap (0 + 1) = (↑s_2.fst : Int) ∧ tl s = tl s ∧ tn s = tn s ∧ tc s = tc s ∧ sp s (ByteArray.mk #[10]) = sp s (ByteArray.mk #[10]) ∧ s_1.length = s_2.snd.length ∧ s_1 = s_2.snd ∧ True) ∧
 JnI (tl s) s_2.fst s_2.snd ∧
 ∀ (s_3 : Nat × List Int),
 JnI (tl s) s_3.fst s_3.snd →
 bcase (decide ((↑s_3.fst : Int) < (↑(tl s).length : Int)))
 ((∀ (s_4 : List Int),
 JnI (tl s) ((↑s_3.fst : Int).toNat + 1) s_4 →
 ∃ (s_5 : Nat × List Int),
 (s = s ∧
 (tl s).length = (tl s).length ∧ (sp s (ByteArray.mk #[10])).length = (sp s (ByteArray.mk #[10])).length ∧ (tl s).length = (tl s).length ∧ (↑(tl s).length : Int) = (↑(tl s).length : Int) ∧ IntKind.i64.wrap ((↑s_3.fst : Int) + 1) = (↑s_5.fst : Int) ∧ tl s = tl s ∧ tn s = tn s ∧ tc s = tc s ∧ sp s (ByteArray.mk #[10]) = sp s (ByteArray.mk #[10]) ∧ s_4.length = s_5.snd.length ∧ s_4 = s_5.snd ∧ True) ∧
 JnI (tl s) s_5.fst s_5.snd ∧ (tl s).length - s_5.fst < (tl s).length - s_3.fst) ∧
 bcase (inB (↑s_3.fst : Int) (tl s).length)
 (bcase ((↑s_3.fst : Int).toNat.blt (tl s).length)
 (bcase (decide (((tl s).getD (↑s_3.fst : Int).toNat (0, ByteArray.mk #[], 0, 0)).snd.snd.fst < 1)) (Value.bool false = Value.bool true ∧ True)
 (bcase (decide (((tl s).getD (↑s_3.fst : Int).toNat (0, ByteArray.mk #[], 0, 0)).snd.snd.fst > (↑(sp s (ByteArray.mk #[10])).length : Int))) (Value.bool false = Value.bool true ∧ True)
 (bcase (decide (((tl s).getD (↑s_3.fst : Int).toNat (0, ByteArray.mk #[], 0, 0)).snd.snd.snd < 1)) (Value.bool false = Value.bool true ∧ True)
 (bcase (inB (IntKind.i64.wrap (((tl s).getD (↑s_3.fst : Int).toNat (0, ByteArray.mk #[], 0, 0)).snd.snd.fst - 1)) (sp s (ByteArray.mk #[10])).length)
 (bcase ((IntKind.i64.wrap (((tl s).getD (↑s_3.fst : Int).toNat (0, ByteArray.mk #[], 0, 0)).snd.snd.fst - 1)).toNat.blt (sp s (ByteArray.mk #[10])).length)
 (bcase (decide (((tl s).getD (↑s_3.fst : Int).toNat (0, ByteArray.mk #[], 0, 0)).snd.snd.snd > IntKind.i64.wrap ((↑(ByteArray.size ((sp s (ByteArray.mk #[10])).getD (IntKind.i64.wrap (((tl s).getD (↑s_3.fst : Int).toNat (0, ByteArray.mk #[], 0, 0)).snd.snd.fst - 1)).toNat (ByteArray.mk #[]))) : Int) + 1))) (Value.bool false = Value.bool true ∧ True)
 (bcase (inB (IntKind.i64.wrap (((tl s).getD (↑s_3.fst : Int).toNat (0, ByteArray.mk #[], 0, 0)).snd.snd.fst - 1)) (sp s (ByteArray.mk #[10])).length)
 (bcase ((IntKind.i64.wrap (((tl s).getD (↑s_3.fst : Int).toNat (0, ByteArray.mk #[], 0, 0)).snd.snd.fst - 1)).toNat.blt (sp s (ByteArray.mk #[10])).length)
 (bcase
 (decide (0 ≤ IntKind.i64.wrap (((tl s).getD (↑s_3.fst : Int).toNat (0, ByteArray.mk #[], 0, 0)).snd.snd.snd - 1)) &&
 (decide (IntKind.i64.wrap (((tl s).getD (↑s_3.fst : Int).toNat (0, ByteArray.mk #[], 0, 0)).snd.snd.snd - 1) ≤ (↑(ByteArray.size ((sp s (ByteArray.mk #[10])).getD (IntKind.i64.wrap (((tl s).getD (↑s_3.fst : Int).toNat (0, ByteArray.mk #[], 0, 0)).snd.snd.fst - 1)).toNat (ByteArray.mk #[]))) : Int)) &&
 decide ((↑(ByteArray.size ((sp s (ByteArray.mk #[10])).getD (IntKind.i64.wrap (((tl s).getD (↑s_3.fst : Int).toNat (0, ByteArray.mk #[], 0, 0)).snd.snd.fst - 1)).toNat (ByteArray.mk #[]))) : Int) ≤ (↑(ByteArray.size ((sp s (ByteArray.mk #[10])).getD (IntKind.i64.wrap (((tl s).getD (↑s_3.fst : Int).toNat (0, ByteArray.mk #[], 0, 0)).snd.snd.fst - 1)).toNat (ByteArray.mk #[]))) : Int))))
 (True ∧
 bcase
 (!pf
 (ByteArray.extract
 ((Row.mk ET.str (sp s (ByteArray.mk #[10])) false).xs.getD
 (bif Nat.beq 0 0 then (IntKind.i64.wrap (((Row.mk TokET (tl s) false).xs.getD (bif Nat.beq 0 0 then (↑s_3.fst : Int).toNat else 0 + (↑s_3.fst : Int).toNat) (Row.mk TokET (tl s) false).E.d).snd.snd.fst - 1)).toNat
 else 0 + (IntKind.i64.wrap (((Row.mk TokET (tl s) false).xs.getD (bif Nat.beq 0 0 then (↑s_3.fst : Int).toNat else 0 + (↑s_3.fst : Int).toNat) (Row.mk TokET (tl s) false).E.d).snd.snd.fst - 1)).toNat)
 (Row.mk ET.str (sp s (ByteArray.mk #[10])) false).E.d)
 (IntKind.i64.wrap (((Row.mk TokET (tl s) false).xs.getD (bif Nat.beq 0 0 then (↑s_3.fst : Int).toNat else 0 + (↑s_3.fst : Int).toNat) (Row.mk TokET (tl s) false).E.d).snd.snd.snd - 1)).toNat
 (↑(ByteArray.size
 ((Row.mk ET.str (sp s (ByteArray.mk #[10])) false).xs.getD
 (bif Nat.beq 0 0 then (IntKind.i64.wrap (((Row.mk TokET (tl s) false).xs.getD (bif Nat.beq 0 0 then (↑s_3.fst : Int).toNat else 0 + (↑s_3.fst : Int).toNat) (Row.mk TokET (tl s) false).E.d).snd.snd.fst - 1)).toNat
 else 0 + (IntKind.i64.wrap (((Row.mk TokET (tl s) false).xs.getD (bif Nat.beq 0 0 then (↑s_3.fst : Int).toNat else 0 + (↑s_3.fst : Int).toNat) (Row.mk TokET (tl s) false).E.d).snd.snd.fst - 1)).toNat)
 (Row.mk ET.str (sp s (ByteArray.mk #[10])) false).E.d)) :
 Int).toNat)
 ((Row.mk TokET (tl s) false).xs.getD (bif Nat.beq 0 0 then (↑s_3.fst : Int).toNat else 0 + (↑s_3.fst : Int).toNat) (Row.mk TokET (tl s) false).E.d).snd.fst)
 (Value.bool false = Value.bool true ∧ True)
 (bcase (((tl s).getD (↑s_3.fst : Int).toNat (0, ByteArray.mk #[], 0, 0)).fst == 4)
 (s_3.snd.length = s_3.snd.length ∧
 bcase (capOk (s_3.snd.length + 1) 1)
 (1 ≠ 0 ∧
 bcase (decide ((↑(s_3.snd.length + 1) : Int) > 2000)) (Value.bool false = Value.bool true ∧ True)
 (∃ (s_4 : List Int),
 (s = s ∧
 (tl s).length = (tl s).length ∧ (sp s (ByteArray.mk #[10])).length = (sp s (ByteArray.mk #[10])).length ∧ (tl s).length = (tl s).length ∧ (↑(tl s).length : Int) = (↑(tl s).length : Int) ∧ (↑s_3.fst : Int) = (↑s_3.fst : Int) ∧ tl s = tl s ∧ tn s = tn s ∧ tc s = tc s ∧ sp s (ByteArray.mk #[10]) = sp s (ByteArray.mk #[10]) ∧ s_3.snd.length + 1 = s_4.length ∧ s_3.snd ++ [(↑10 : Int)] = s_4 ∧ True) ∧
 JnI (tl s) ((↑s_3.fst : Int).toNat + 1) s_4))
 False)
 (bcase (tooLong ((tl s).getD (↑s_3.fst : Int).toNat (0, ByteArray.mk #[], 0, 0)).snd.fst (ByteArray.mk #[32])) False
 (s_3.snd.length = s_3.snd.length ∧
 bcase (capOk (s_3.snd.length + (((tl s).getD (↑s_3.fst : Int).toNat (0, ByteArray.mk #[], 0, 0)).snd.fst ++ ByteArray.mk #[32]).size) 1)
 ((((tl s).getD (↑s_3.fst : Int).toNat (0, ByteArray.mk #[], 0, 0)).snd.fst ++ ByteArray.mk #[32]).size ≠ 0 ∧
 bcase (decide ((↑(s_3.snd.length + (((tl s).getD (↑s_3.fst : Int).toNat (0, ByteArray.mk #[], 0, 0)).snd.fst ++ ByteArray.mk #[32]).size) : Int) > 2000)) (Value.bool false = Value.bool true ∧ True)
 (∃ (s_4 : List Int),
 (s = s ∧
 (tl s).length = (tl s).length ∧
 (sp s (ByteArray.mk #[10])).length = (sp s (ByteArray.mk #[10])).length ∧
 (tl s).length = (tl s).length ∧
 (↑(tl s).length : Int) = (↑(tl s).length : Int) ∧
 (↑s_3.fst : Int) = (↑s_3.fst : Int) ∧ tl s = tl s ∧ tn s = tn s ∧ tc s = tc s ∧ sp s (ByteArray.mk #[10]) = sp s (ByteArray.mk #[10]) ∧ s_3.snd.length + (((tl s).getD (↑s_3.fst : Int).toNat (0, ByteArray.mk #[], 0, 0)).snd.fst ++ ByteArray.mk #[32]).size = s_4.length ∧ s_3.snd ++ bytesV (((tl s).getD (↑s_3.fst : Int).toNat (0, ByteArray.mk #[], 0, 0)).snd.fst ++ ByteArray.mk #[32]) = s_4 ∧ True) ∧
 JnI (tl s) ((↑s_3.fst : Int).toNat + 1) s_4))
 False))))
 False)
 False)
 False))
 False)
 False))))
 False)
 False)
 (∃ (s_4 : List Int), (s = s ∧ (tl s).length = (tl s).length ∧ tl s = tl s ∧ tn s = tn s ∧ tc s = tc s ∧ sp s (ByteArray.mk #[10]) = sp s (ByteArray.mk #[10]) ∧ s_3.snd.length = s_4.length ∧ s_3.snd = s_4 ∧ True) ∧ JnI (tl s) (tl s).length s_4)) ∧
 bcase (inB 0 (tl s).length)
 (bcase (Nat.blt 0 (tl s).length)
 (bcase (decide (((tl s).getD 0 (0, ByteArray.mk #[], 0, 0)).snd.snd.fst < 1)) (Value.bool false = Value.bool true ∧ True)
 (bcase (decide (((tl s).getD 0 (0, ByteArray.mk #[], 0, 0)).snd.snd.fst > (↑(sp s (ByteArray.mk #[10])).length : Int))) (Value.bool false = Value.bool true ∧ True)
 (bcase (decide (((tl s).getD 0 (0, ByteArray.mk #[], 0, 0)).snd.snd.snd < 1)) (Value.bool false = Value.bool true ∧ True)
 (bcase (inB (IntKind.i64.wrap (((tl s).getD 0 (0, ByteArray.mk #[], 0, 0)).snd.snd.fst - 1)) (sp s (ByteArray.mk #[10])).length)
 (bcase ((IntKind.i64.wrap (((tl s).getD 0 (0, ByteArray.mk #[], 0, 0)).snd.snd.fst - 1)).toNat.blt (sp s (ByteArray.mk #[10])).length)
 (bcase (decide (((tl s).getD 0 (0, ByteArray.mk #[], 0, 0)).snd.snd.snd > IntKind.i64.wrap ((↑(ByteArray.size ((sp s (ByteArray.mk #[10])).getD (IntKind.i64.wrap (((tl s).getD 0 (0, ByteArray.mk #[], 0, 0)).snd.snd.fst - 1)).toNat (ByteArray.mk #[]))) : Int) + 1))) (Value.bool false = Value.bool true ∧ True)
 (bcase (inB (IntKind.i64.wrap (((tl s).getD 0 (0, ByteArray.mk #[], 0, 0)).snd.snd.fst - 1)) (sp s (ByteArray.mk #[10])).length)
 (bcase ((IntKind.i64.wrap (((tl s).getD 0 (0, ByteArray.mk #[], 0, 0)).snd.snd.fst - 1)).toNat.blt (sp s (ByteArray.mk #[10])).length)
 (bcase
 (decide (0 ≤ IntKind.i64.wrap (((tl s).getD 0 (0, ByteArray.mk #[], 0, 0)).snd.snd.snd - 1)) &&
 (decide (IntKind.i64.wrap (((tl s).getD 0 (0, ByteArray.mk #[], 0, 0)).snd.snd.snd - 1) ≤ (↑(ByteArray.size ((sp s (ByteArray.mk #[10])).getD (IntKind.i64.wrap (((tl s).getD 0 (0, ByteArray.mk #[], 0, 0)).snd.snd.fst - 1)).toNat (ByteArray.mk #[]))) : Int)) &&
 decide ((↑(ByteArray.size ((sp s (ByteArray.mk #[10])).getD (IntKind.i64.wrap (((tl s).getD 0 (0, ByteArray.mk #[], 0, 0)).snd.snd.fst - 1)).toNat (ByteArray.mk #[]))) : Int) ≤ (↑(ByteArray.size ((sp s (ByteArray.mk #[10])).getD (IntKind.i64.wrap (((tl s).getD 0 (0, ByteArray.mk #[], 0, 0)).snd.snd.fst - 1)).toNat (ByteArray.mk #[]))) : Int))))
 (True ∧
 bcase
 (!pf
 (ByteArray.extract
 ((Row.mk ET.str (sp s (ByteArray.mk #[10])) false).xs.getD
 (bif Nat.beq 0 0 then (IntKind.i64.wrap (((Row.mk TokET (tl s) false).xs.getD (bif Nat.beq 0 0 then Int.toNat 0 else 0 + Int.toNat 0) (Row.mk TokET (tl s) false).E.d).snd.snd.fst - 1)).toNat else 0 + (IntKind.i64.wrap (((Row.mk TokET (tl s) false).xs.getD (bif Nat.beq 0 0 then Int.toNat 0 else 0 + Int.toNat 0) (Row.mk TokET (tl s) false).E.d).snd.snd.fst - 1)).toNat)
 (Row.mk ET.str (sp s (ByteArray.mk #[10])) false).E.d)
 (IntKind.i64.wrap (((Row.mk TokET (tl s) false).xs.getD (bif Nat.beq 0 0 then Int.toNat 0 else 0 + Int.toNat 0) (Row.mk TokET (tl s) false).E.d).snd.snd.snd - 1)).toNat
 (↑(ByteArray.size
 ((Row.mk ET.str (sp s (ByteArray.mk #[10])) false).xs.getD
 (bif Nat.beq 0 0 then (IntKind.i64.wrap (((Row.mk TokET (tl s) false).xs.getD (bif Nat.beq 0 0 then Int.toNat 0 else 0 + Int.toNat 0) (Row.mk TokET (tl s) false).E.d).snd.snd.fst - 1)).toNat else 0 + (IntKind.i64.wrap (((Row.mk TokET (tl s) false).xs.getD (bif Nat.beq 0 0 then Int.toNat 0 else 0 + Int.toNat 0) (Row.mk TokET (tl s) false).E.d).snd.snd.fst - 1)).toNat)
 (Row.mk ET.str (sp s (ByteArray.mk #[10])) false).E.d)) :
 Int).toNat)
 ((Row.mk TokET (tl s) false).xs.getD (bif Nat.beq 0 0 then Int.toNat 0 else 0 + Int.toNat 0) (Row.mk TokET (tl s) false).E.d).snd.fst)
 (Value.bool false = Value.bool true ∧ True)
 (bcase (((tl s).getD 0 (0, ByteArray.mk #[], 0, 0)).fst == 4)
 (1 ≠ 0 ∧
 ∃ (s_1 : List Int),
 (s = s ∧ (tl s).length = (tl s).length ∧ (sp s (ByteArray.mk #[10])).length = (sp s (ByteArray.mk #[10])).length ∧ (tl s).length = (tl s).length ∧ (↑(tl s).length : Int) = (↑(tl s).length : Int) ∧ Int.ofNat 0 = 0 ∧ tl s = tl s ∧ tn s = tn s ∧ tc s = tc s ∧ sp s (ByteArray.mk #[10]) = sp s (ByteArray.mk #[10]) ∧ 1 = s_1.length ∧ [(↑10 : Int)] = s_1 ∧ True) ∧ JnI (tl s) (Int.toNat 0 + 1) s_1)
 (bcase (tooLong ((tl s).getD 0 (0, ByteArray.mk #[], 0, 0)).snd.fst (ByteArray.mk #[32])) False
 (bcase (capOk (0 + (((tl s).getD 0 (0, ByteArray.mk #[], 0, 0)).snd.fst ++ ByteArray.mk #[32]).size) 1)
 ((((tl s).getD 0 (0, ByteArray.mk #[], 0, 0)).snd.fst ++ ByteArray.mk #[32]).size ≠ 0 ∧
 bcase (decide ((↑(0 + (((tl s).getD 0 (0, ByteArray.mk #[], 0, 0)).snd.fst ++ ByteArray.mk #[32]).size) : Int) > 2000)) (Value.bool false = Value.bool true ∧ True)
 (∃ (s_1 : List Int),
 (s = s ∧
 (tl s).length = (tl s).length ∧
 (sp s (ByteArray.mk #[10])).length = (sp s (ByteArray.mk #[10])).length ∧
 (tl s).length = (tl s).length ∧
 (↑(tl s).length : Int) = (↑(tl s).length : Int) ∧ Int.ofNat 0 = 0 ∧ tl s = tl s ∧ tn s = tn s ∧ tc s = tc s ∧ sp s (ByteArray.mk #[10]) = sp s (ByteArray.mk #[10]) ∧ 0 + (((tl s).getD 0 (0, ByteArray.mk #[], 0, 0)).snd.fst ++ ByteArray.mk #[32]).size = s_1.length ∧ [] ++ bytesV (((tl s).getD 0 (0, ByteArray.mk #[], 0, 0)).snd.fst ++ ByteArray.mk #[32]) = s_1 ∧ True) ∧
 JnI (tl s) (Int.toNat 0 + 1) s_1))
 False))))
 False)
 False)
 False))
 False)
 False))))
 False)
 False)
 (∃ (s_1 : List Int), (s = s ∧ (tl s).length = (tl s).length ∧ tl s = tl s ∧ tn s = tn s ∧ tc s = tc s ∧ sp s (ByteArray.mk #[10]) = sp s (ByteArray.mk #[10]) ∧ False) ∧ JnI (tl s) (tl s).length s_1)))
 False)
 False)))) := by kernel_rfl
end Go.Proofs.YtobmbbmompoliaaDoor
