/- What the texts of instruments ask. -/
import Derived.Test.YtkcelhhhbbpbpaaDoorInS
namespace Go.Proofs.YtkcelhhhbbpbpaaDoor
open Go Go.Abs Go.RowKit
set_option linter.unusedVariables false
set_option linter.unusedSimpArgs false
theorem vc_number (s : ByteArray) (pv pe : ByteArray → Int) (ot : Int → ByteArray) (te : Int → Int) (K : Value → Prop) : callsX Tryd.prog (ΓNm pv pe ot te) (noAnn) 37 [.string s] K = (
 SL s ∧ bcase (pe s != 0) (K (Value.tuple #[Value.int IntKind.i64 0, Value.bool false])) (True ∧ bcase (te (pv s) == 0) (K (Value.tuple #[Value.int IntKind.i64 (pv s), Value.bool ((ot (pv s)).toList == s.toList)])) (K (Value.tuple #[Value.int IntKind.i64 (pv s), Value.bool false])))) := by kernel_rfl
theorem vc_integer (s : ByteArray) (pv pe : ByteArray → Int) (ot : Int → ByteArray) (K : Value → Prop) : callsX Tryd.prog (ΓIg pv pe ot) (noAnn) 24 [.string s] K = (
 SL s ∧ bcase (pe s != 0) (K (Value.tuple #[Value.int IntKind.i64 0, Value.bool false])) (Fit (pv s) ∧ bcase (!(ot (pv s)).toList == s.toList) (K (Value.tuple #[Value.int IntKind.i64 0, Value.bool false])) (K (Value.tuple #[Value.int IntKind.i64 (pv s), Value.bool true])))) := by kernel_rfl
theorem vc_word (s w : ByteArray) (K : Value → Prop) : callsX Tryd.prog ([]) (noAnn) 23 [.string s, .string w] K = (
 bcase (decide ((↑s.size : Int) ≤ (↑w.size : Int))) (K (Value.tuple #[Value.string (ByteArray.mk #[]), Value.bool false]))
 (bcase (decide (0 ≤ 0) && (decide (0 ≤ (↑w.size : Int)) && decide ((↑w.size : Int) ≤ (↑s.size : Int))))
 (bcase (!(s.extract 0 (↑w.size : Int).toNat).toList == w.toList) (K (Value.tuple #[Value.string (ByteArray.mk #[]), Value.bool false]))
 (bcase (inB (↑w.size : Int) s.size)
 (bcase ((↑(s.get! (↑w.size : Int).toNat).toNat : Int) != 32) (K (Value.tuple #[Value.string (ByteArray.mk #[]), Value.bool false]))
 (bcase (decide (0 ≤ IntKind.i64.wrap ((↑w.size : Int) + 1)) && (decide (IntKind.i64.wrap ((↑w.size : Int) + 1) ≤ (↑s.size : Int)) && decide ((↑s.size : Int) ≤ (↑s.size : Int)))) (K (Value.tuple #[Value.string (s.extract (IntKind.i64.wrap ((↑w.size : Int) + 1)).toNat (↑s.size : Int).toNat), Value.bool true])) False))
 False))
 False)) := by kernel_rfl
theorem vc_rfLine (s : ByteArray) (a : Nat) (l : List UInt8) (K : Value → Prop) : callsX Tryd.prog ([]) (ALn l a) 22 [.string s, .int .i64 (a : Int)] K = (
 ∃ (s_1 : Nat),
 (s = s ∧ (↑a : Int) = (↑a : Int) ∧ (↑a : Int) = (↑(a + s_1) : Int) ∧ True) ∧
 NoAt l 10 s_1 ∧
 ∀ (s_2 : Nat),
 NoAt l 10 s_2 →
 bcase (decide ((↑(a + s_2) : Int) < (↑s.size : Int)))
 (bcase (inB (↑(a + s_2) : Int) s.size)
 (bcase ((↑(s.get! (↑(a + s_2) : Int).toNat).toNat : Int) == 10) (bcase (decide (0 ≤ (↑a : Int)) && (decide ((↑a : Int) ≤ (↑(a + s_2) : Int)) && decide ((↑(a + s_2) : Int) ≤ (↑s.size : Int)))) (K (Value.tuple #[Value.string (s.extract (↑a : Int).toNat (↑(a + s_2) : Int).toNat), Value.bool true])) False)
 (∃ (s_3 : Nat), (s = s ∧ (↑a : Int) = (↑a : Int) ∧ IntKind.i64.wrap ((↑(a + s_2) : Int) + 1) = (↑(a + s_3) : Int) ∧ True) ∧ NoAt l 10 s_3 ∧ l.length - s_3 < l.length - s_2))
 False)
 (K (Value.tuple #[Value.string (ByteArray.mk #[]), Value.bool false]))) := by kernel_rfl
theorem vc_entry (s : ByteArray) (l : List UInt8) (wd : ByteArray → ByteArray → ByteArray) (wo : ByteArray → ByteArray → Bool) (iv : ByteArray → Int) (io : ByteArray → Bool) (K : Value → Prop) : callsX Tryd.prog (ΓEn wd wo iv io) (AEn l) 25 [.string s] K = (
 WdOk s (ByteArray.mk #[101, 114, 114, 111, 114]) ∧
 bcase (!wo s (ByteArray.mk #[101, 114, 114, 111, 114])) (K (Value.tuple #[Value.agg #[Value.int IntKind.i64 0, Value.int IntKind.i64 0], Value.bool false]))
 (∃ (s_1 : Nat),
 (wd s (ByteArray.mk #[101, 114, 114, 111, 114]) = wd s (ByteArray.mk #[101, 114, 114, 111, 114]) ∧ 0 = (↑s_1 : Int) ∧ Int.ofNat 0 = 0 ∧ Int.ofNat 0 = 0 ∧ True) ∧
 NoAt l 32 s_1 ∧
 ∀ (s_2 : Nat),
 NoAt l 32 s_2 →
 bcase (decide ((↑s_2 : Int) < (↑(wd s (ByteArray.mk #[101, 114, 114, 111, 114])).size : Int)))
 (bcase (inB (↑s_2 : Int) (wd s (ByteArray.mk #[101, 114, 114, 111, 114])).size)
 (bcase ((↑((wd s (ByteArray.mk #[101, 114, 114, 111, 114])).get! (↑s_2 : Int).toNat).toNat : Int) == 32)
 (bcase (decide (0 ≤ 0) && (decide (0 ≤ (↑s_2 : Int)) && decide ((↑s_2 : Int) ≤ (↑(wd s (ByteArray.mk #[101, 114, 114, 111, 114])).size : Int))))
 (SL ((wd s (ByteArray.mk #[101, 114, 114, 111, 114])).extract 0 (↑s_2 : Int).toNat) ∧
 bcase (decide (0 ≤ IntKind.i64.wrap ((↑s_2 : Int) + 1)) && (decide (IntKind.i64.wrap ((↑s_2 : Int) + 1) ≤ (↑(wd s (ByteArray.mk #[101, 114, 114, 111, 114])).size : Int)) && decide ((↑(wd s (ByteArray.mk #[101, 114, 114, 111, 114])).size : Int) ≤ (↑(wd s (ByteArray.mk #[101, 114, 114, 111, 114])).size : Int))))
 (SL ((wd s (ByteArray.mk #[101, 114, 114, 111, 114])).extract (IntKind.i64.wrap ((↑s_2 : Int) + 1)).toNat (↑(wd s (ByteArray.mk #[101, 114, 114, 111, 114])).size : Int).toNat) ∧
 bcase (io ((wd s (ByteArray.mk #[101, 114, 114, 111, 114])).extract (Int.toNat 0) (↑s_2 : Int).toNat))
 (K
 (Value.tuple
 #[Value.agg #[Value.int IntKind.i64 (iv ((wd s (ByteArray.mk #[101, 114, 114, 111, 114])).extract (Int.toNat 0) (↑s_2 : Int).toNat)), Value.int IntKind.i64 (iv ((wd s (ByteArray.mk #[101, 114, 114, 111, 114])).extract (IntKind.i64.wrap ((↑s_2 : Int) + 1)).toNat (↑(wd s (ByteArray.mk #[101, 114, 114, 111, 114])).size : Int).toNat))],
 Value.bool (io ((wd s (ByteArray.mk #[101, 114, 114, 111, 114])).extract (IntKind.i64.wrap ((↑s_2 : Int) + 1)).toNat (↑(wd s (ByteArray.mk #[101, 114, 114, 111, 114])).size : Int).toNat))]))
 (K (Value.tuple #[Value.agg #[Value.int IntKind.i64 (iv ((wd s (ByteArray.mk #[101, 114, 114, 111, 114])).extract (Int.toNat 0) (↑s_2 : Int).toNat)), Value.int IntKind.i64 (iv ((wd s (ByteArray.mk #[101, 114, 114, 111, 114])).extract (IntKind.i64.wrap ((↑s_2 : Int) + 1)).toNat (↑(wd s (ByteArray.mk #[101, 114, 114, 111, 114])).size : Int).toNat))], Value.bool false])))
 False)
 False)
 (∃ (s_3 : Nat), (wd s (ByteArray.mk #[101, 114, 114, 111, 114]) = wd s (ByteArray.mk #[101, 114, 114, 111, 114]) ∧ IntKind.i64.wrap ((↑s_2 : Int) + 1) = (↑s_3 : Int) ∧ Int.ofNat 0 = 0 ∧ Int.ofNat 0 = 0 ∧ True) ∧ NoAt l 32 s_3 ∧ l.length - s_3 < l.length - s_2))
 False)
 (K (Value.tuple #[Value.agg #[Value.int IntKind.i64 0, Value.int IntKind.i64 0], Value.bool false])))) := by kernel_rfl
theorem vc_insText (k : Int) (xs : List (Int × Int)) (vd : Int → List (Int × Int) → Bool) (ot : Int → ByteArray) (te : Int → Int) (rb : ByteArray) (re : Int) : rcallsX Tryd.prog (ΓIt vd ot te) (AIt k xs) 7 [insA k xs] [.one (.v (.string rb)), .one (.v (num re))] = (
 0 + xs.length ≤ xs.length ∧
 ∀ (z : List (Int × Int)),
 z = List.take xs.length xs →
 True ∧
 bcase (!vd k z) (Value.string (ByteArray.mk #[]) = Value.string rb ∧ Value.int IntKind.i64 1 = Value.int IntKind.i64 re ∧ True)
 (True ∧
 bcase (tooLong (ByteArray.mk #[105, 110, 100, 101, 120, 32]) (ot k)) False
 (bcase (tooLong (ByteArray.mk #[105, 110, 100, 101, 120, 32] ++ ot k) (ByteArray.mk #[10])) False
 (∃ (s : Nat),
 (te k = 0 ∧ ByteArray.mk #[105, 110, 100, 101, 120, 32] ++ ot k ++ ByteArray.mk #[10] = insB k xs s ∧ xs.length = xs.length ∧ (↑xs.length : Int) = (↑xs.length : Int) ∧ 0 = (↑s : Int) ∧ xs = xs ∧ k = k ∧ xs.length = xs.length ∧ True) ∧
 s.le xs.length ∧
 ∀ (s : Nat),
 s.le xs.length →
 bcase (decide ((↑s : Int) < (↑xs.length : Int)))
 (bcase (inB (↑s : Int) xs.length)
 (bcase ((↑s : Int).toNat.blt xs.length)
 (True ∧
 True ∧
 bcase (te ((Row.mk pE2 xs false).xs.getD (bif Nat.beq 0 0 then (↑s : Int).toNat else 0 + (↑s : Int).toNat) (Row.mk pE2 xs false).E.d).fst != 0)
 (bcase (tooLong (ByteArray.mk #[101, 114, 114, 111, 114, 32]) (ot ((Row.mk pE2 xs false).xs.getD (bif Nat.beq 0 0 then (↑s : Int).toNat else 0 + (↑s : Int).toNat) (Row.mk pE2 xs false).E.d).fst)) False
 (bcase (tooLong (ByteArray.mk #[101, 114, 114, 111, 114, 32] ++ ot ((Row.mk pE2 xs false).xs.getD (bif Nat.beq 0 0 then (↑s : Int).toNat else 0 + (↑s : Int).toNat) (Row.mk pE2 xs false).E.d).fst) (ByteArray.mk #[32])) False
 (bcase (tooLong (ByteArray.mk #[101, 114, 114, 111, 114, 32] ++ ot ((Row.mk pE2 xs false).xs.getD (bif Nat.beq 0 0 then (↑s : Int).toNat else 0 + (↑s : Int).toNat) (Row.mk pE2 xs false).E.d).fst ++ ByteArray.mk #[32]) (ot ((Row.mk pE2 xs false).xs.getD (bif Nat.beq 0 0 then (↑s : Int).toNat else 0 + (↑s : Int).toNat) (Row.mk pE2 xs false).E.d).snd)) False
 (bcase (tooLong (ByteArray.mk #[101, 114, 114, 111, 114, 32] ++ ot ((Row.mk pE2 xs false).xs.getD (bif Nat.beq 0 0 then (↑s : Int).toNat else 0 + (↑s : Int).toNat) (Row.mk pE2 xs false).E.d).fst ++ ByteArray.mk #[32] ++ ot ((Row.mk pE2 xs false).xs.getD (bif Nat.beq 0 0 then (↑s : Int).toNat else 0 + (↑s : Int).toNat) (Row.mk pE2 xs false).E.d).snd) (ByteArray.mk #[10])) False
 (bcase (tooLong (insB k xs s) (ByteArray.mk #[101, 114, 114, 111, 114, 32] ++ ot ((Row.mk pE2 xs false).xs.getD (bif Nat.beq 0 0 then (↑s : Int).toNat else 0 + (↑s : Int).toNat) (Row.mk pE2 xs false).E.d).fst ++ ByteArray.mk #[32] ++ ot ((Row.mk pE2 xs false).xs.getD (bif Nat.beq 0 0 then (↑s : Int).toNat else 0 + (↑s : Int).toNat) (Row.mk pE2 xs false).E.d).snd ++ ByteArray.mk #[10])) False
 (∃ (s_1 : Nat),
 (Int.ofNat 5 = 0 ∧
 insB k xs s ++ (ByteArray.mk #[101, 114, 114, 111, 114, 32] ++ ot ((Row.mk pE2 xs false).xs.getD (bif Nat.beq 0 0 then (↑s : Int).toNat else 0 + (↑s : Int).toNat) (Row.mk pE2 xs false).E.d).fst ++ ByteArray.mk #[32] ++ ot ((Row.mk pE2 xs false).xs.getD (bif Nat.beq 0 0 then (↑s : Int).toNat else 0 + (↑s : Int).toNat) (Row.mk pE2 xs false).E.d).snd ++ ByteArray.mk #[10]) = insB k xs s_1 ∧
 xs.length = xs.length ∧ (↑xs.length : Int) = (↑xs.length : Int) ∧ IntKind.i64.wrap ((↑s : Int) + 1) = (↑s_1 : Int) ∧ xs = xs ∧ k = k ∧ xs.length = xs.length ∧ True) ∧
 s_1.le xs.length ∧ xs.length - s_1 < xs.length - s))))))
 (bcase (te ((Row.mk pE2 xs false).xs.getD (bif Nat.beq 0 0 then (↑s : Int).toNat else 0 + (↑s : Int).toNat) (Row.mk pE2 xs false).E.d).snd != 0)
 (bcase (tooLong (ByteArray.mk #[101, 114, 114, 111, 114, 32]) (ot ((Row.mk pE2 xs false).xs.getD (bif Nat.beq 0 0 then (↑s : Int).toNat else 0 + (↑s : Int).toNat) (Row.mk pE2 xs false).E.d).fst)) False
 (bcase (tooLong (ByteArray.mk #[101, 114, 114, 111, 114, 32] ++ ot ((Row.mk pE2 xs false).xs.getD (bif Nat.beq 0 0 then (↑s : Int).toNat else 0 + (↑s : Int).toNat) (Row.mk pE2 xs false).E.d).fst) (ByteArray.mk #[32])) False
 (bcase (tooLong (ByteArray.mk #[101, 114, 114, 111, 114, 32] ++ ot ((Row.mk pE2 xs false).xs.getD (bif Nat.beq 0 0 then (↑s : Int).toNat else 0 + (↑s : Int).toNat) (Row.mk pE2 xs false).E.d).fst ++ ByteArray.mk #[32]) (ot ((Row.mk pE2 xs false).xs.getD (bif Nat.beq 0 0 then (↑s : Int).toNat else 0 + (↑s : Int).toNat) (Row.mk pE2 xs false).E.d).snd)) False
 (bcase (tooLong (ByteArray.mk #[101, 114, 114, 111, 114, 32] ++ ot ((Row.mk pE2 xs false).xs.getD (bif Nat.beq 0 0 then (↑s : Int).toNat else 0 + (↑s : Int).toNat) (Row.mk pE2 xs false).E.d).fst ++ ByteArray.mk #[32] ++ ot ((Row.mk pE2 xs false).xs.getD (bif Nat.beq 0 0 then (↑s : Int).toNat else 0 + (↑s : Int).toNat) (Row.mk pE2 xs false).E.d).snd) (ByteArray.mk #[10])) False
 (bcase (tooLong (insB k xs s) (ByteArray.mk #[101, 114, 114, 111, 114, 32] ++ ot ((Row.mk pE2 xs false).xs.getD (bif Nat.beq 0 0 then (↑s : Int).toNat else 0 + (↑s : Int).toNat) (Row.mk pE2 xs false).E.d).fst ++ ByteArray.mk #[32] ++ ot ((Row.mk pE2 xs false).xs.getD (bif Nat.beq 0 0 then (↑s : Int).toNat else 0 + (↑s : Int).toNat) (Row.mk pE2 xs false).E.d).snd ++ ByteArray.mk #[10])) False
 (∃ (s_1 : Nat),
 (Int.ofNat 5 = 0 ∧
 insB k xs s ++ (ByteArray.mk #[101, 114, 114, 111, 114, 32] ++ ot ((Row.mk pE2 xs false).xs.getD (bif Nat.beq 0 0 then (↑s : Int).toNat else 0 + (↑s : Int).toNat) (Row.mk pE2 xs false).E.d).fst ++ ByteArray.mk #[32] ++ ot ((Row.mk pE2 xs false).xs.getD (bif Nat.beq 0 0 then (↑s : Int).toNat else 0 + (↑s : Int).toNat) (Row.mk pE2 xs false).E.d).snd ++ ByteArray.mk #[10]) = insB k xs s_1 ∧
 xs.length = xs.length ∧ (↑xs.length : Int) = (↑xs.length : Int) ∧ IntKind.i64.wrap ((↑s : Int) + 1) = (↑s_1 : Int) ∧ xs = xs ∧ k = k ∧ xs.length = xs.length ∧ True) ∧
 s_1.le xs.length ∧ xs.length - s_1 < xs.length - s))))))
 (bcase (tooLong (ByteArray.mk #[101, 114, 114, 111, 114, 32]) (ot ((Row.mk pE2 xs false).xs.getD (bif Nat.beq 0 0 then (↑s : Int).toNat else 0 + (↑s : Int).toNat) (Row.mk pE2 xs false).E.d).fst)) False
 (bcase (tooLong (ByteArray.mk #[101, 114, 114, 111, 114, 32] ++ ot ((Row.mk pE2 xs false).xs.getD (bif Nat.beq 0 0 then (↑s : Int).toNat else 0 + (↑s : Int).toNat) (Row.mk pE2 xs false).E.d).fst) (ByteArray.mk #[32])) False
 (bcase (tooLong (ByteArray.mk #[101, 114, 114, 111, 114, 32] ++ ot ((Row.mk pE2 xs false).xs.getD (bif Nat.beq 0 0 then (↑s : Int).toNat else 0 + (↑s : Int).toNat) (Row.mk pE2 xs false).E.d).fst ++ ByteArray.mk #[32]) (ot ((Row.mk pE2 xs false).xs.getD (bif Nat.beq 0 0 then (↑s : Int).toNat else 0 + (↑s : Int).toNat) (Row.mk pE2 xs false).E.d).snd)) False
 (bcase (tooLong (ByteArray.mk #[101, 114, 114, 111, 114, 32] ++ ot ((Row.mk pE2 xs false).xs.getD (bif Nat.beq 0 0 then (↑s : Int).toNat else 0 + (↑s : Int).toNat) (Row.mk pE2 xs false).E.d).fst ++ ByteArray.mk #[32] ++ ot ((Row.mk pE2 xs false).xs.getD (bif Nat.beq 0 0 then (↑s : Int).toNat else 0 + (↑s : Int).toNat) (Row.mk pE2 xs false).E.d).snd) (ByteArray.mk #[10])) False
 (bcase (tooLong (insB k xs s) (ByteArray.mk #[101, 114, 114, 111, 114, 32] ++ ot ((Row.mk pE2 xs false).xs.getD (bif Nat.beq 0 0 then (↑s : Int).toNat else 0 + (↑s : Int).toNat) (Row.mk pE2 xs false).E.d).fst ++ ByteArray.mk #[32] ++ ot ((Row.mk pE2 xs false).xs.getD (bif Nat.beq 0 0 then (↑s : Int).toNat else 0 + (↑s : Int).toNat) (Row.mk pE2 xs false).E.d).snd ++ ByteArray.mk #[10])) False
 (∃ (s_1 : Nat),
 (Int.ofNat 0 = 0 ∧
 insB k xs s ++ (ByteArray.mk #[101, 114, 114, 111, 114, 32] ++ ot ((Row.mk pE2 xs false).xs.getD (bif Nat.beq 0 0 then (↑s : Int).toNat else 0 + (↑s : Int).toNat) (Row.mk pE2 xs false).E.d).fst ++ ByteArray.mk #[32] ++ ot ((Row.mk pE2 xs false).xs.getD (bif Nat.beq 0 0 then (↑s : Int).toNat else 0 + (↑s : Int).toNat) (Row.mk pE2 xs false).E.d).snd ++ ByteArray.mk #[10]) = insB k xs s_1 ∧
 xs.length = xs.length ∧ (↑xs.length : Int) = (↑xs.length : Int) ∧ IntKind.i64.wrap ((↑s : Int) + 1) = (↑s_1 : Int) ∧ xs = xs ∧ k = k ∧ xs.length = xs.length ∧ True) ∧
 s_1.le xs.length ∧ xs.length - s_1 < xs.length - s))))))))
 False)
 False)
 (Value.string (insB k xs s) = Value.string rb ∧ Value.int IntKind.i64 0 = Value.int IntKind.i64 re ∧ True))))) := by kernel_rfl
theorem vc_rfText (k : Int) (xs : List (Int × Int)) (ot : Int → ByteArray) (rb : ByteArray) : rcallsX Tryd.prog (ΓRx ot) (ARt k xs) 9 [insA k xs] [.one (.v (.string rb))] = (
 Fit k ∧
 bcase (tooLong (ByteArray.mk #[105, 110, 100, 101, 120, 32]) (ot k)) False
 (bcase (tooLong (ByteArray.mk #[105, 110, 100, 101, 120, 32] ++ ot k) (ByteArray.mk #[10])) False
 (∃ (s : Nat),
 (ByteArray.mk #[105, 110, 100, 101, 120, 32] ++ ot k ++ ByteArray.mk #[10] = insB k xs s ∧ 0 = (↑s : Int) ∧ xs = xs ∧ k = k ∧ xs.length = xs.length ∧ True) ∧
 s.le xs.length ∧
 ∀ (s : Nat),
 s.le xs.length →
 bcase (decide ((↑s : Int) < (↑xs.length : Int)))
 (bcase (tooLong (insB k xs s) (ByteArray.mk #[101, 114, 114, 111, 114, 32])) False
 (bcase (inB (↑s : Int) xs.length)
 (bcase ((↑s : Int).toNat.blt xs.length)
 (Fit (xs.getD (↑s : Int).toNat (0, 0)).fst ∧
 bcase (tooLong (insB k xs s ++ ByteArray.mk #[101, 114, 114, 111, 114, 32]) (ot ((Row.mk pE2 xs false).xs.getD (bif Nat.beq 0 0 then (↑s : Int).toNat else 0 + (↑s : Int).toNat) (Row.mk pE2 xs false).E.d).fst)) False
 (bcase (tooLong (insB k xs s ++ ByteArray.mk #[101, 114, 114, 111, 114, 32] ++ ot ((Row.mk pE2 xs false).xs.getD (bif Nat.beq 0 0 then (↑s : Int).toNat else 0 + (↑s : Int).toNat) (Row.mk pE2 xs false).E.d).fst) (ByteArray.mk #[32])) False
 (bcase (inB (↑s : Int) xs.length)
 (bcase ((↑s : Int).toNat.blt xs.length)
 (Fit (xs.getD (↑s : Int).toNat (0, 0)).snd ∧
 bcase (tooLong (insB k xs s ++ ByteArray.mk #[101, 114, 114, 111, 114, 32] ++ ot ((Row.mk pE2 xs false).xs.getD (bif Nat.beq 0 0 then (↑s : Int).toNat else 0 + (↑s : Int).toNat) (Row.mk pE2 xs false).E.d).fst ++ ByteArray.mk #[32]) (ot ((Row.mk pE2 xs false).xs.getD (bif Nat.beq 0 0 then (↑s : Int).toNat else 0 + (↑s : Int).toNat) (Row.mk pE2 xs false).E.d).snd)) False
 (bcase (tooLong (insB k xs s ++ ByteArray.mk #[101, 114, 114, 111, 114, 32] ++ ot ((Row.mk pE2 xs false).xs.getD (bif Nat.beq 0 0 then (↑s : Int).toNat else 0 + (↑s : Int).toNat) (Row.mk pE2 xs false).E.d).fst ++ ByteArray.mk #[32] ++ ot ((Row.mk pE2 xs false).xs.getD (bif Nat.beq 0 0 then (↑s : Int).toNat else 0 + (↑s : Int).toNat) (Row.mk pE2 xs false).E.d).snd) (ByteArray.mk #[10])) False
 (∃ (s_1 : Nat),
 (insB k xs s ++ ByteArray.mk #[101, 114, 114, 111, 114, 32] ++ ot ((Row.mk pE2 xs false).xs.getD (bif Nat.beq 0 0 then (↑s : Int).toNat else 0 + (↑s : Int).toNat) (Row.mk pE2 xs false).E.d).fst ++ ByteArray.mk #[32] ++ ot ((Row.mk pE2 xs false).xs.getD (bif Nat.beq 0 0 then (↑s : Int).toNat else 0 + (↑s : Int).toNat) (Row.mk pE2 xs false).E.d).snd ++ ByteArray.mk #[10] = insB k xs s_1 ∧
 IntKind.i64.wrap ((↑s : Int) + 1) = (↑s_1 : Int) ∧ xs = xs ∧ k = k ∧ xs.length = xs.length ∧ True) ∧
 s_1.le xs.length ∧ xs.length - s_1 < xs.length - s)))
 False)
 False)))
 False)
 False))
 (Value.string (insB k xs s) = Value.string rb ∧ True)))) := by kernel_rfl
theorem vc_same (k j : Int) (xs ys : List (Int × Int)) (b : Bool) : rcallsX Tryd.prog ([]) (ASm xs ys) 12 [insA k xs, insA j ys] [.one (.v (.bool b))] = (
 bcase (k != j) (Value.bool false = Value.bool b ∧ True)
 (bcase ((↑xs.length : Int) != (↑ys.length : Int)) (Value.bool false = Value.bool b ∧ True)
 (∃ (s : Nat),
 (0 = (↑s : Int) ∧ xs = xs ∧ ys = ys ∧ k = k ∧ xs.length = xs.length ∧ j = j ∧ ys.length = ys.length ∧ True) ∧
 (s ≤ xs.length ∧ List.take s xs = List.take s ys) ∧
 ∀ (s : Nat),
 s ≤ xs.length ∧ List.take s xs = List.take s ys →
 bcase (decide ((↑s : Int) < (↑xs.length : Int)))
 (bcase (inB (↑s : Int) xs.length)
 (bcase ((↑s : Int).toNat.blt xs.length)
 (bcase (inB (↑s : Int) ys.length)
 (bcase ((↑s : Int).toNat.blt ys.length)
 (bcase (!((xs.getD (↑s : Int).toNat (0, 0)).fst == (ys.getD (↑s : Int).toNat (0, 0)).fst && ((xs.getD (↑s : Int).toNat (0, 0)).snd == (ys.getD (↑s : Int).toNat (0, 0)).snd && true))) (Value.bool false = Value.bool b ∧ True)
 (∃ (s_1 : Nat), (IntKind.i64.wrap ((↑s : Int) + 1) = (↑s_1 : Int) ∧ xs = xs ∧ ys = ys ∧ k = k ∧ xs.length = xs.length ∧ j = j ∧ ys.length = ys.length ∧ True) ∧ (s_1 ≤ xs.length ∧ List.take s_1 xs = List.take s_1 ys) ∧ xs.length - s_1 < xs.length - s))
 False)
 False)
 False)
 False)
 (Value.bool true = Value.bool b ∧ True)))) := by kernel_rfl
theorem vc_line (s w : ByteArray) (c : Int) (cs : ByteArray → ByteArray → ByteArray) (co : ByteArray → ByteArray → Bool) (ps : ByteArray → ByteArray → List ByteArray) (nv : ByteArray → Int) (no : ByteArray → Bool) (zs : List Int) (b : Bool) : rcallsX Tryd.prog (ΓLn cs co ps nv no) (ALine) 21 [.one (.v (.string s)), .one (.v (.string w)), .one (.v (num c))] [.one (.r 3 (.int .i64) zs), .one (.v (.bool b))] = (
 WdOk s (ByteArray.mk #[10]) ∧
 (WdOk (cs s (ByteArray.mk #[10])) (ByteArray.mk #[32]) ∧ 1 ≤ 1) ∧
 bcase (!co s (ByteArray.mk #[10])) ([] = zs ∧ Value.bool false = Value.bool b ∧ True)
 (bcase ((↑(ps (cs s (ByteArray.mk #[10])) (ByteArray.mk #[32])).length : Int) != IntKind.i64.wrap (c + 1)) ([] = zs ∧ Value.bool false = Value.bool b ∧ True)
 (bcase (inB 0 (ps (cs s (ByteArray.mk #[10])) (ByteArray.mk #[32])).length)
 (bcase (Nat.blt 0 (ps (cs s (ByteArray.mk #[10])) (ByteArray.mk #[32])).length)
 (bcase (!ByteArray.toList ((ps (cs s (ByteArray.mk #[10])) (ByteArray.mk #[32])).getD 0 (ByteArray.mk #[])) == w.toList) ([] = zs ∧ Value.bool false = Value.bool b ∧ True)
 (bcase (decide (0 ≤ 1) && (decide (1 ≤ (↑(ps (cs s (ByteArray.mk #[10])) (ByteArray.mk #[32])).length : Int)) && decide ((↑(ps (cs s (ByteArray.mk #[10])) (ByteArray.mk #[32])).length : Int) ≤ (↑(ps (cs s (ByteArray.mk #[10])) (ByteArray.mk #[32])).length : Int))) && (ps (cs s (ByteArray.mk #[10])) (ByteArray.mk #[32])).length.beq (ps (cs s (ByteArray.mk #[10])) (ByteArray.mk #[32])).length)
 (bcase (decide (0 < (↑((↑(ps (cs s (ByteArray.mk #[10])) (ByteArray.mk #[32])).length : Int).toNat - 1) : Int)))
 (bcase (inB 0 ((↑(ps (cs s (ByteArray.mk #[10])) (ByteArray.mk #[32])).length : Int).toNat - 1))
 (bcase (Nat.blt 1 (ps (cs s (ByteArray.mk #[10])) (ByteArray.mk #[32])).length)
 (SL ((ps (cs s (ByteArray.mk #[10])) (ByteArray.mk #[32])).getD 1 (ByteArray.mk #[])) ∧
 bcase (!no ((Row.mk ET.str (ps (cs s (ByteArray.mk #[10])) (ByteArray.mk #[32])) false).xs.getD (bif (0 + Int.toNat 1).beq 0 then Int.toNat 0 else 0 + Int.toNat 1 + Int.toNat 0) (Row.mk ET.str (ps (cs s (ByteArray.mk #[10])) (ByteArray.mk #[32])) false).E.d)) ([] = zs ∧ Value.bool false = Value.bool b ∧ True)
 (bcase (decide (IntKind.i64.wrap (0 + 1) < (↑((↑(ps (cs s (ByteArray.mk #[10])) (ByteArray.mk #[32])).length : Int).toNat - 1) : Int)))
 (bcase (inB (IntKind.i64.wrap (0 + 1)) ((↑(ps (cs s (ByteArray.mk #[10])) (ByteArray.mk #[32])).length : Int).toNat - 1))
 (bcase (Nat.blt 2 (ps (cs s (ByteArray.mk #[10])) (ByteArray.mk #[32])).length)
 (SL ((ps (cs s (ByteArray.mk #[10])) (ByteArray.mk #[32])).getD 2 (ByteArray.mk #[])) ∧
 bcase (!no ((Row.mk ET.str (ps (cs s (ByteArray.mk #[10])) (ByteArray.mk #[32])) false).xs.getD (bif (0 + Int.toNat 1).beq 0 then (IntKind.i64.wrap (0 + 1)).toNat else 0 + Int.toNat 1 + (IntKind.i64.wrap (0 + 1)).toNat) (Row.mk ET.str (ps (cs s (ByteArray.mk #[10])) (ByteArray.mk #[32])) false).E.d)) ([] = zs ∧ Value.bool false = Value.bool b ∧ True)
 (1 = [nv ((Row.mk ET.str (ps (cs s (ByteArray.mk #[10])) (ByteArray.mk #[32])) false).xs.getD (bif (0 + Int.toNat 1).beq 0 then Int.toNat 0 else 0 + Int.toNat 1 + Int.toNat 0) (Row.mk ET.str (ps (cs s (ByteArray.mk #[10])) (ByteArray.mk #[32])) false).E.d)].length ∧
 bcase (decide (IntKind.i64.wrap (IntKind.i64.wrap (0 + 1) + 1) < (↑((↑(ps (cs s (ByteArray.mk #[10])) (ByteArray.mk #[32])).length : Int).toNat - 1) : Int)))
 (bcase (inB (IntKind.i64.wrap (IntKind.i64.wrap (0 + 1) + 1)) ((↑(ps (cs s (ByteArray.mk #[10])) (ByteArray.mk #[32])).length : Int).toNat - 1))
 (bcase (Nat.blt 3 (ps (cs s (ByteArray.mk #[10])) (ByteArray.mk #[32])).length)
 (SL ((ps (cs s (ByteArray.mk #[10])) (ByteArray.mk #[32])).getD 3 (ByteArray.mk #[])) ∧
 bcase (!no ((Row.mk ET.str (ps (cs s (ByteArray.mk #[10])) (ByteArray.mk #[32])) false).xs.getD (bif (0 + Int.toNat 1).beq 0 then (IntKind.i64.wrap (IntKind.i64.wrap (0 + 1) + 1)).toNat else 0 + Int.toNat 1 + (IntKind.i64.wrap (IntKind.i64.wrap (0 + 1) + 1)).toNat) (Row.mk ET.str (ps (cs s (ByteArray.mk #[10])) (ByteArray.mk #[32])) false).E.d)) ([] = zs ∧ Value.bool false = Value.bool b ∧ True)
 ([nv ((Row.mk ET.str (ps (cs s (ByteArray.mk #[10])) (ByteArray.mk #[32])) false).xs.getD (bif (0 + Int.toNat 1).beq 0 then Int.toNat 0 else 0 + Int.toNat 1 + Int.toNat 0) (Row.mk ET.str (ps (cs s (ByteArray.mk #[10])) (ByteArray.mk #[32])) false).E.d)].length + 1 =
 [nv ((Row.mk ET.str (ps (cs s (ByteArray.mk #[10])) (ByteArray.mk #[32])) false).xs.getD (bif (0 + Int.toNat 1).beq 0 then Int.toNat 0 else 0 + Int.toNat 1 + Int.toNat 0) (Row.mk ET.str (ps (cs s (ByteArray.mk #[10])) (ByteArray.mk #[32])) false).E.d),
 nv ((Row.mk ET.str (ps (cs s (ByteArray.mk #[10])) (ByteArray.mk #[32])) false).xs.getD (bif (0 + Int.toNat 1).beq 0 then (IntKind.i64.wrap (0 + 1)).toNat else 0 + Int.toNat 1 + (IntKind.i64.wrap (0 + 1)).toNat) (Row.mk ET.str (ps (cs s (ByteArray.mk #[10])) (ByteArray.mk #[32])) false).E.d)].length ∧
 False))
 False)
 False)
 ([nv ((Row.mk ET.str (ps (cs s (ByteArray.mk #[10])) (ByteArray.mk #[32])) false).xs.getD (bif (0 + Int.toNat 1).beq 0 then Int.toNat 0 else 0 + Int.toNat 1 + Int.toNat 0) (Row.mk ET.str (ps (cs s (ByteArray.mk #[10])) (ByteArray.mk #[32])) false).E.d)].length + 1 =
 [nv ((Row.mk ET.str (ps (cs s (ByteArray.mk #[10])) (ByteArray.mk #[32])) false).xs.getD (bif (0 + Int.toNat 1).beq 0 then Int.toNat 0 else 0 + Int.toNat 1 + Int.toNat 0) (Row.mk ET.str (ps (cs s (ByteArray.mk #[10])) (ByteArray.mk #[32])) false).E.d),
 nv ((Row.mk ET.str (ps (cs s (ByteArray.mk #[10])) (ByteArray.mk #[32])) false).xs.getD (bif (0 + Int.toNat 1).beq 0 then (IntKind.i64.wrap (0 + 1)).toNat else 0 + Int.toNat 1 + (IntKind.i64.wrap (0 + 1)).toNat) (Row.mk ET.str (ps (cs s (ByteArray.mk #[10])) (ByteArray.mk #[32])) false).E.d)].length ∧
 [nv ((Row.mk ET.str (ps (cs s (ByteArray.mk #[10])) (ByteArray.mk #[32])) false).xs.getD (bif (0 + Int.toNat 1).beq 0 then Int.toNat 0 else 0 + Int.toNat 1 + Int.toNat 0) (Row.mk ET.str (ps (cs s (ByteArray.mk #[10])) (ByteArray.mk #[32])) false).E.d),
 nv ((Row.mk ET.str (ps (cs s (ByteArray.mk #[10])) (ByteArray.mk #[32])) false).xs.getD (bif (0 + Int.toNat 1).beq 0 then (IntKind.i64.wrap (0 + 1)).toNat else 0 + Int.toNat 1 + (IntKind.i64.wrap (0 + 1)).toNat) (Row.mk ET.str (ps (cs s (ByteArray.mk #[10])) (ByteArray.mk #[32])) false).E.d)] =
 zs ∧
 Value.bool true = Value.bool b ∧ True)))
 False)
 False)
 (1 = [nv ((Row.mk ET.str (ps (cs s (ByteArray.mk #[10])) (ByteArray.mk #[32])) false).xs.getD (bif (0 + Int.toNat 1).beq 0 then Int.toNat 0 else 0 + Int.toNat 1 + Int.toNat 0) (Row.mk ET.str (ps (cs s (ByteArray.mk #[10])) (ByteArray.mk #[32])) false).E.d)].length ∧
 [nv ((Row.mk ET.str (ps (cs s (ByteArray.mk #[10])) (ByteArray.mk #[32])) false).xs.getD (bif (0 + Int.toNat 1).beq 0 then Int.toNat 0 else 0 + Int.toNat 1 + Int.toNat 0) (Row.mk ET.str (ps (cs s (ByteArray.mk #[10])) (ByteArray.mk #[32])) false).E.d)] = zs ∧ Value.bool true = Value.bool b ∧ True)))
 False)
 False)
 ([] = zs ∧ Value.bool true = Value.bool b ∧ True))
 False))
 False)
 False))) := by kernel_rfl
theorem vc_cutSuffix (s q : ByteArray) (K : Value → Prop) : callsX Tryd.prog ([]) (noAnn) 35 [.string s, .string q] K = (
 bcase (decide ((↑s.size : Int) ≥ (↑q.size : Int)))
 (bcase (decide (0 ≤ IntKind.i64.wrap ((↑s.size : Int) - (↑q.size : Int))) && (decide (IntKind.i64.wrap ((↑s.size : Int) - (↑q.size : Int)) ≤ (↑s.size : Int)) && decide ((↑s.size : Int) ≤ (↑s.size : Int))))
 (bcase (!(s.extract (IntKind.i64.wrap ((↑s.size : Int) - (↑q.size : Int))).toNat (↑s.size : Int).toNat).toList == q.toList) (K (Value.tuple #[Value.string s, Value.bool false]))
 (bcase (decide (0 ≤ 0) && (decide (0 ≤ IntKind.i64.wrap ((↑s.size : Int) - (↑q.size : Int))) && decide (IntKind.i64.wrap ((↑s.size : Int) - (↑q.size : Int)) ≤ (↑s.size : Int)))) (K (Value.tuple #[Value.string (s.extract 0 (IntKind.i64.wrap ((↑s.size : Int) - (↑q.size : Int))).toNat), Value.bool true])) False))
 False)
 (K (Value.tuple #[Value.string s, Value.bool false]))) := by kernel_rfl
end Go.Proofs.YtkcelhhhbbpbpaaDoor
