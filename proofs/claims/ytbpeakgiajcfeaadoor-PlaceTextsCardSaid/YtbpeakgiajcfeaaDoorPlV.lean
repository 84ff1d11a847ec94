/- What the texts of points ask. -/
import Derived.Test.YtbpeakgiajcfeaaDoorPlS
namespace Go.Proofs.YtbpeakgiajcfeaaDoor
open Go Go.Abs Go.RowKit
set_option linter.unusedVariables false
set_option linter.unusedSimpArgs false
theorem vc_cutSuffix (s q : ByteArray) (K : Value → Prop) : callsX Tryd.prog ([]) (noAnn) 32 [.string s, .string q] K = (
 bcase (decide ((↑s.size : Int) ≥ (↑q.size : Int)))
 (bcase (decide (0 ≤ IntKind.i64.wrap ((↑s.size : Int) - (↑q.size : Int))) && (decide (IntKind.i64.wrap ((↑s.size : Int) - (↑q.size : Int)) ≤ (↑s.size : Int)) && decide ((↑s.size : Int) ≤ (↑s.size : Int))))
 (bcase (!(s.extract (IntKind.i64.wrap ((↑s.size : Int) - (↑q.size : Int))).toNat (↑s.size : Int).toNat).toList == q.toList) (K (Value.tuple #[Value.string s, Value.bool false]))
 (bcase (decide (0 ≤ 0) && (decide (0 ≤ IntKind.i64.wrap ((↑s.size : Int) - (↑q.size : Int))) && decide (IntKind.i64.wrap ((↑s.size : Int) - (↑q.size : Int)) ≤ (↑s.size : Int)))) (K (Value.tuple #[Value.string (s.extract 0 (IntKind.i64.wrap ((↑s.size : Int) - (↑q.size : Int))).toNat), Value.bool true])) False))
 False)
 (K (Value.tuple #[Value.string s, Value.bool false]))) := by kernel_rfl
theorem vc_plSide (n : Int) (p m : ByteArray) (ot : Int → ByteArray) (e : Int → Int) (K : Value → Prop) : callsX Tryd.prog (ΓSd ot e) (noAnn) 18 [num n, .string p, .string m] K = (
 bcase (decide (n < 0)) (True ∧ bcase (tooLong (ot (IntKind.i64.wrap (0 - n))) m) False (K (Value.string (ot (IntKind.i64.wrap (0 - n)) ++ m)))) (True ∧ bcase (tooLong (ot n) p) False (K (Value.string (ot n ++ p))))) := by kernel_rfl
theorem vc_r8side (n : Int) (p m : ByteArray) (ot : Int → ByteArray) (K : Value → Prop) : callsX Tryd.prog (ΓSr ot) (noAnn) 21 [num n, .string p, .string m] K = (
 bcase (decide (n < 0)) (Fit (IntKind.i64.wrap (0 - n)) ∧ bcase (tooLong (ot (IntKind.i64.wrap (0 - n))) m) False (K (Value.string (ot (IntKind.i64.wrap (0 - n)) ++ m)))) (Fit n ∧ bcase (tooLong (ot n) p) False (K (Value.string (ot n ++ p))))) := by kernel_rfl
theorem vc_plText (a b : Int) (sd : Int → ByteArray → ByteArray → ByteArray) (K : Value → Prop) : callsX Tryd.prog (ΓPt sd) (noAnn) 6 [arc a b] K = (
 bcase (decide (a ≥ -5400000))
 (bcase (decide (a ≤ 5400000))
 (bcase (decide (b ≥ -10800000))
 (bcase (!decide (b < 10800000)) (K (Value.tuple #[Value.string (ByteArray.mk #[]), Value.int IntKind.i64 1]))
 (SdOk a (ByteArray.mk #[78]) (ByteArray.mk #[83]) ∧
 bcase (tooLong (sd a (ByteArray.mk #[78]) (ByteArray.mk #[83])) (ByteArray.mk #[32])) False
 (SdOk b (ByteArray.mk #[69]) (ByteArray.mk #[87]) ∧ bcase (tooLong (sd a (ByteArray.mk #[78]) (ByteArray.mk #[83]) ++ ByteArray.mk #[32]) (sd b (ByteArray.mk #[69]) (ByteArray.mk #[87]))) False (K (Value.tuple #[Value.string (sd a (ByteArray.mk #[78]) (ByteArray.mk #[83]) ++ ByteArray.mk #[32] ++ sd b (ByteArray.mk #[69]) (ByteArray.mk #[87])), Value.int IntKind.i64 0])))))
 (K (Value.tuple #[Value.string (ByteArray.mk #[]), Value.int IntKind.i64 1])))
 (K (Value.tuple #[Value.string (ByteArray.mk #[]), Value.int IntKind.i64 1])))
 (K (Value.tuple #[Value.string (ByteArray.mk #[]), Value.int IntKind.i64 1]))) := by kernel_rfl
theorem vc_r8Text (a b : Int) (sd : Int → ByteArray → ByteArray → ByteArray) (K : Value → Prop) : callsX Tryd.prog (ΓPr sd) (noAnn) 10 [arc a b] K = (
 SdOk a (ByteArray.mk #[78]) (ByteArray.mk #[83]) ∧
 bcase (tooLong (sd a (ByteArray.mk #[78]) (ByteArray.mk #[83])) (ByteArray.mk #[32])) False
 (SdOk b (ByteArray.mk #[69]) (ByteArray.mk #[87]) ∧ bcase (tooLong (sd a (ByteArray.mk #[78]) (ByteArray.mk #[83]) ++ ByteArray.mk #[32]) (sd b (ByteArray.mk #[69]) (ByteArray.mk #[87]))) False (K (Value.string (sd a (ByteArray.mk #[78]) (ByteArray.mk #[83]) ++ ByteArray.mk #[32] ++ sd b (ByteArray.mk #[69]) (ByteArray.mk #[87])))))) := by kernel_rfl
theorem vc_plNumber (s p m : ByteArray) (cs : ByteArray → ByteArray → ByteArray) (co : ByteArray → ByteArray → Bool) (hp : ByteArray → ByteArray → Bool) (pv pe : ByteArray → Int) (K : Value → Prop) : callsX Tryd.prog (ΓNu cs co hp pv pe) (noAnn) 20 [.string s, .string p, .string m] K = (
 SQ s p ∧
 bcase (!co s p)
 (SQ s m ∧
 bcase (!co s m) (K (Value.tuple #[Value.int IntKind.i64 0, Value.bool false]))
 (SL (cs s m) ∧
 bcase (pe (cs s m) == 5)
 (True ∧
 bcase (!hp (cs s m) (ByteArray.mk #[45])) (K (Value.tuple #[Value.int IntKind.i64 (IntKind.i64.wrap (-1 * 1099511627777)), Value.bool true]))
 (bcase (pe (cs s m) == 0) (True ∧ K (Value.tuple #[Value.int IntKind.i64 (IntKind.i64.wrap (-1 * pv (cs s m))), Value.bool !hp (cs s m) (ByteArray.mk #[45])])) (K (Value.tuple #[Value.int IntKind.i64 (IntKind.i64.wrap (-1 * pv (cs s m))), Value.bool false]))))
 (bcase (pe (cs s m) == 0) (True ∧ K (Value.tuple #[Value.int IntKind.i64 (IntKind.i64.wrap (-1 * pv (cs s m))), Value.bool !hp (cs s m) (ByteArray.mk #[45])])) (K (Value.tuple #[Value.int IntKind.i64 (IntKind.i64.wrap (-1 * pv (cs s m))), Value.bool false])))))
 (SL (cs s p) ∧
 bcase (pe (cs s p) == 5)
 (True ∧
 bcase (!hp (cs s p) (ByteArray.mk #[45])) (K (Value.tuple #[Value.int IntKind.i64 (IntKind.i64.wrap (1 * 1099511627777)), Value.bool true])) (bcase (pe (cs s p) == 0) (True ∧ K (Value.tuple #[Value.int IntKind.i64 (IntKind.i64.wrap (1 * pv (cs s p))), Value.bool !hp (cs s p) (ByteArray.mk #[45])])) (K (Value.tuple #[Value.int IntKind.i64 (IntKind.i64.wrap (1 * pv (cs s p))), Value.bool false]))))
 (bcase (pe (cs s p) == 0) (True ∧ K (Value.tuple #[Value.int IntKind.i64 (IntKind.i64.wrap (1 * pv (cs s p))), Value.bool !hp (cs s p) (ByteArray.mk #[45])])) (K (Value.tuple #[Value.int IntKind.i64 (IntKind.i64.wrap (1 * pv (cs s p))), Value.bool false]))))) := by kernel_rfl
theorem vc_plParse (s : ByteArray) (nv : ByteArray → ByteArray → ByteArray → Int) (no : ByteArray → ByteArray → ByteArray → Bool) (cw cp : ByteArray → ByteArray → ByteArray) (co : ByteArray → ByteArray → Bool) (K : Value → Prop) : callsX Tryd.prog (ΓPp nv no cw cp co) (noAnn) 8 [.string s] K = (
 SQ s (ByteArray.mk #[32]) ∧
 bcase (!co s (ByteArray.mk #[32])) (K (Value.tuple #[Value.agg #[Value.int IntKind.i64 0, Value.int IntKind.i64 0], Value.int IntKind.i64 7]))
 (SQ3 (cw s (ByteArray.mk #[32])) (ByteArray.mk #[78]) (ByteArray.mk #[83]) ∧
 SQ3 (cp s (ByteArray.mk #[32])) (ByteArray.mk #[69]) (ByteArray.mk #[87]) ∧
 bcase (!no (cw s (ByteArray.mk #[32])) (ByteArray.mk #[78]) (ByteArray.mk #[83])) (K (Value.tuple #[Value.agg #[Value.int IntKind.i64 0, Value.int IntKind.i64 0], Value.int IntKind.i64 7]))
 (bcase (!no (cp s (ByteArray.mk #[32])) (ByteArray.mk #[69]) (ByteArray.mk #[87])) (K (Value.tuple #[Value.agg #[Value.int IntKind.i64 0, Value.int IntKind.i64 0], Value.int IntKind.i64 7]))
 (bcase (decide (nv (cw s (ByteArray.mk #[32])) (ByteArray.mk #[78]) (ByteArray.mk #[83]) ≥ -5400000))
 (bcase (decide (nv (cw s (ByteArray.mk #[32])) (ByteArray.mk #[78]) (ByteArray.mk #[83]) ≤ 5400000))
 (bcase (decide (nv (cp s (ByteArray.mk #[32])) (ByteArray.mk #[69]) (ByteArray.mk #[87]) ≥ -10800000))
 (bcase (!decide (nv (cp s (ByteArray.mk #[32])) (ByteArray.mk #[69]) (ByteArray.mk #[87]) < 10800000)) (K (Value.tuple #[Value.agg #[Value.int IntKind.i64 0, Value.int IntKind.i64 0], Value.int IntKind.i64 2]))
 (K (Value.tuple #[Value.agg #[Value.int IntKind.i64 (nv (cw s (ByteArray.mk #[32])) (ByteArray.mk #[78]) (ByteArray.mk #[83])), Value.int IntKind.i64 (nv (cp s (ByteArray.mk #[32])) (ByteArray.mk #[69]) (ByteArray.mk #[87]))], Value.int IntKind.i64 0])))
 (K (Value.tuple #[Value.agg #[Value.int IntKind.i64 0, Value.int IntKind.i64 0], Value.int IntKind.i64 2])))
 (K (Value.tuple #[Value.agg #[Value.int IntKind.i64 0, Value.int IntKind.i64 0], Value.int IntKind.i64 2])))
 (K (Value.tuple #[Value.agg #[Value.int IntKind.i64 0, Value.int IntKind.i64 0], Value.int IntKind.i64 2])))))) := by kernel_rfl
theorem vc_r8parsed (s : ByteArray) (p m : Int) (pv pe : ByteArray → Int) (K : Value → Prop) : callsX Tryd.prog (ΓRn pv pe) (noAnn) 22 [.string s, .int .u8 p, .int .u8 m] K = (
 bcase (decide ((↑s.size : Int) < 2)) (K (Value.tuple #[Value.int IntKind.i64 0, Value.int IntKind.i64 7]))
 (bcase (inB (IntKind.i64.wrap ((↑s.size : Int) - 1)) s.size)
 (bcase ((↑(s.get! (IntKind.i64.wrap ((↑s.size : Int) - 1)).toNat).toNat : Int) != p)
 (bcase (inB (IntKind.i64.wrap ((↑s.size : Int) - 1)) s.size)
 (bcase ((↑(s.get! (IntKind.i64.wrap ((↑s.size : Int) - 1)).toNat).toNat : Int) != m) (K (Value.tuple #[Value.int IntKind.i64 0, Value.int IntKind.i64 7]))
 (bcase (inB 0 s.size)
 (bcase ((↑(s.get! 0).toNat : Int) == 45) (K (Value.tuple #[Value.int IntKind.i64 0, Value.int IntKind.i64 7]))
 (bcase (decide (0 ≤ 0) && (decide (0 ≤ IntKind.i64.wrap ((↑s.size : Int) - 1)) && decide (IntKind.i64.wrap ((↑s.size : Int) - 1) ≤ (↑s.size : Int))))
 (SL (s.extract 0 (IntKind.i64.wrap ((↑s.size : Int) - 1)).toNat) ∧
 bcase (pe (s.extract (Int.toNat 0) (IntKind.i64.wrap ((↑s.size : Int) - 1)).toNat) == 5) (K (Value.tuple #[Value.int IntKind.i64 1099511627776, Value.int IntKind.i64 0]))
 (bcase (inB (IntKind.i64.wrap ((↑s.size : Int) - 1)) s.size)
 (bcase ((↑(s.get! (IntKind.i64.wrap ((↑s.size : Int) - 1)).toNat).toNat : Int) == m) (K (Value.tuple #[Value.int IntKind.i64 (IntKind.i64.wrap (0 - pv (s.extract (Int.toNat 0) (IntKind.i64.wrap ((↑s.size : Int) - 1)).toNat))), Value.int IntKind.i64 (pe (s.extract (Int.toNat 0) (IntKind.i64.wrap ((↑s.size : Int) - 1)).toNat))]))
 (K (Value.tuple #[Value.int IntKind.i64 (pv (s.extract (Int.toNat 0) (IntKind.i64.wrap ((↑s.size : Int) - 1)).toNat)), Value.int IntKind.i64 (pe (s.extract (Int.toNat 0) (IntKind.i64.wrap ((↑s.size : Int) - 1)).toNat))])))
 False))
 False))
 False))
 False)
 (bcase (inB 0 s.size)
 (bcase ((↑(s.get! 0).toNat : Int) == 45) (K (Value.tuple #[Value.int IntKind.i64 0, Value.int IntKind.i64 7]))
 (bcase (decide (0 ≤ 0) && (decide (0 ≤ IntKind.i64.wrap ((↑s.size : Int) - 1)) && decide (IntKind.i64.wrap ((↑s.size : Int) - 1) ≤ (↑s.size : Int))))
 (SL (s.extract 0 (IntKind.i64.wrap ((↑s.size : Int) - 1)).toNat) ∧
 bcase (pe (s.extract (Int.toNat 0) (IntKind.i64.wrap ((↑s.size : Int) - 1)).toNat) == 5) (K (Value.tuple #[Value.int IntKind.i64 1099511627776, Value.int IntKind.i64 0]))
 (bcase (inB (IntKind.i64.wrap ((↑s.size : Int) - 1)) s.size)
 (bcase ((↑(s.get! (IntKind.i64.wrap ((↑s.size : Int) - 1)).toNat).toNat : Int) == m) (K (Value.tuple #[Value.int IntKind.i64 (IntKind.i64.wrap (0 - pv (s.extract (Int.toNat 0) (IntKind.i64.wrap ((↑s.size : Int) - 1)).toNat))), Value.int IntKind.i64 (pe (s.extract (Int.toNat 0) (IntKind.i64.wrap ((↑s.size : Int) - 1)).toNat))]))
 (K (Value.tuple #[Value.int IntKind.i64 (pv (s.extract (Int.toNat 0) (IntKind.i64.wrap ((↑s.size : Int) - 1)).toNat)), Value.int IntKind.i64 (pe (s.extract (Int.toNat 0) (IntKind.i64.wrap ((↑s.size : Int) - 1)).toNat))])))
 False))
 False))
 False))
 False)) := by kernel_rfl
theorem vc_r8Parse (s : ByteArray) (l : List UInt8) (rv re : ByteArray → Int → Int → Int) (K : Value → Prop) : callsX Tryd.prog (ΓRd rv re) (ARd l) 11 [.string s] K = (
 ∃ (s_1 : Nat),
 (s = s ∧ Int.ofNat 0 = 0 ∧ 0 = (↑s_1 : Int) ∧ Int.ofNat 0 = 0 ∧ Int.ofNat 0 = 0 ∧ True) ∧
 NoSp l s_1 ∧
 ∀ (s_2 : Nat),
 NoSp l s_2 →
 bcase (decide ((↑s_2 : Int) < (↑s.size : Int)))
 (bcase (inB (↑s_2 : Int) s.size)
 (bcase ((↑(s.get! (↑s_2 : Int).toNat).toNat : Int) != 32) (∃ (s_3 : Nat), (s = s ∧ Int.ofNat 0 = 0 ∧ IntKind.i64.wrap ((↑s_2 : Int) + 1) = (↑s_3 : Int) ∧ Int.ofNat 0 = 0 ∧ Int.ofNat 0 = 0 ∧ True) ∧ NoSp l s_3 ∧ l.length - s_3 < l.length - s_2)
 (bcase ((↑s_2 : Int) == (↑s.size : Int)) (K (Value.tuple #[Value.agg #[Value.int IntKind.i64 0, Value.int IntKind.i64 0], Value.int IntKind.i64 7]))
 (bcase (decide (0 ≤ 0) && (decide (0 ≤ (↑s_2 : Int)) && decide ((↑s_2 : Int) ≤ (↑s.size : Int))))
 (PmOk (s.extract 0 (↑s_2 : Int).toNat) 78 83 ∧
 bcase (decide (0 ≤ IntKind.i64.wrap ((↑s_2 : Int) + 1)) && (decide (IntKind.i64.wrap ((↑s_2 : Int) + 1) ≤ (↑s.size : Int)) && decide ((↑s.size : Int) ≤ (↑s.size : Int))))
 (PmOk (s.extract (IntKind.i64.wrap ((↑s_2 : Int) + 1)).toNat (↑s.size : Int).toNat) 69 87 ∧
 bcase (re (s.extract (Int.toNat 0) (↑s_2 : Int).toNat) 78 83 != 0) (K (Value.tuple #[Value.agg #[Value.int IntKind.i64 0, Value.int IntKind.i64 0], Value.int IntKind.i64 7]))
 (bcase (re (s.extract (IntKind.i64.wrap ((↑s_2 : Int) + 1)).toNat (↑s.size : Int).toNat) 69 87 != 0) (K (Value.tuple #[Value.agg #[Value.int IntKind.i64 0, Value.int IntKind.i64 0], Value.int IntKind.i64 7]))
 (bcase (decide (rv (s.extract (Int.toNat 0) (↑s_2 : Int).toNat) 78 83 ≥ -5400000))
 (bcase (decide (rv (s.extract (Int.toNat 0) (↑s_2 : Int).toNat) 78 83 ≤ 5400000))
 (bcase (decide (rv (s.extract (IntKind.i64.wrap ((↑s_2 : Int) + 1)).toNat (↑s.size : Int).toNat) 69 87 ≥ -10800000))
 (bcase (!decide (rv (s.extract (IntKind.i64.wrap ((↑s_2 : Int) + 1)).toNat (↑s.size : Int).toNat) 69 87 < 10800000)) (K (Value.tuple #[Value.agg #[Value.int IntKind.i64 0, Value.int IntKind.i64 0], Value.int IntKind.i64 2]))
 (K (Value.tuple #[Value.agg #[Value.int IntKind.i64 (rv (s.extract (Int.toNat 0) (↑s_2 : Int).toNat) 78 83), Value.int IntKind.i64 (rv (s.extract (IntKind.i64.wrap ((↑s_2 : Int) + 1)).toNat (↑s.size : Int).toNat) 69 87)], Value.int IntKind.i64 0])))
 (K (Value.tuple #[Value.agg #[Value.int IntKind.i64 0, Value.int IntKind.i64 0], Value.int IntKind.i64 2])))
 (K (Value.tuple #[Value.agg #[Value.int IntKind.i64 0, Value.int IntKind.i64 0], Value.int IntKind.i64 2])))
 (K (Value.tuple #[Value.agg #[Value.int IntKind.i64 0, Value.int IntKind.i64 0], Value.int IntKind.i64 2])))))
 False)
 False)))
 False)
 (bcase ((↑s_2 : Int) == (↑s.size : Int)) (K (Value.tuple #[Value.agg #[Value.int IntKind.i64 0, Value.int IntKind.i64 0], Value.int IntKind.i64 7]))
 (bcase (decide (0 ≤ 0) && (decide (0 ≤ (↑s_2 : Int)) && decide ((↑s_2 : Int) ≤ (↑s.size : Int))))
 (PmOk (s.extract 0 (↑s_2 : Int).toNat) 78 83 ∧
 bcase (decide (0 ≤ IntKind.i64.wrap ((↑s_2 : Int) + 1)) && (decide (IntKind.i64.wrap ((↑s_2 : Int) + 1) ≤ (↑s.size : Int)) && decide ((↑s.size : Int) ≤ (↑s.size : Int))))
 (PmOk (s.extract (IntKind.i64.wrap ((↑s_2 : Int) + 1)).toNat (↑s.size : Int).toNat) 69 87 ∧
 bcase (re (s.extract (Int.toNat 0) (↑s_2 : Int).toNat) 78 83 != 0) (K (Value.tuple #[Value.agg #[Value.int IntKind.i64 0, Value.int IntKind.i64 0], Value.int IntKind.i64 7]))
 (bcase (re (s.extract (IntKind.i64.wrap ((↑s_2 : Int) + 1)).toNat (↑s.size : Int).toNat) 69 87 != 0) (K (Value.tuple #[Value.agg #[Value.int IntKind.i64 0, Value.int IntKind.i64 0], Value.int IntKind.i64 7]))
 (bcase (decide (rv (s.extract (Int.toNat 0) (↑s_2 : Int).toNat) 78 83 ≥ -5400000))
 (bcase (decide (rv (s.extract (Int.toNat 0) (↑s_2 : Int).toNat) 78 83 ≤ 5400000))
 (bcase (decide (rv (s.extract (IntKind.i64.wrap ((↑s_2 : Int) + 1)).toNat (↑s.size : Int).toNat) 69 87 ≥ -10800000))
 (bcase (!decide (rv (s.extract (IntKind.i64.wrap ((↑s_2 : Int) + 1)).toNat (↑s.size : Int).toNat) 69 87 < 10800000)) (K (Value.tuple #[Value.agg #[Value.int IntKind.i64 0, Value.int IntKind.i64 0], Value.int IntKind.i64 2]))
 (K (Value.tuple #[Value.agg #[Value.int IntKind.i64 (rv (s.extract (Int.toNat 0) (↑s_2 : Int).toNat) 78 83), Value.int IntKind.i64 (rv (s.extract (IntKind.i64.wrap ((↑s_2 : Int) + 1)).toNat (↑s.size : Int).toNat) 69 87)], Value.int IntKind.i64 0])))
 (K (Value.tuple #[Value.agg #[Value.int IntKind.i64 0, Value.int IntKind.i64 0], Value.int IntKind.i64 2])))
 (K (Value.tuple #[Value.agg #[Value.int IntKind.i64 0, Value.int IntKind.i64 0], Value.int IntKind.i64 2])))
 (K (Value.tuple #[Value.agg #[Value.int IntKind.i64 0, Value.int IntKind.i64 0], Value.int IntKind.i64 2])))))
 False)
 False))) := by kernel_rfl
theorem vc_plEvery  (K : Value → Prop) : callsX Tryd.prog ([]) (noAnn) 43 [] K = (
 K (Value.agg #[Value.int IntKind.i64 (-10800000), Value.int IntKind.i64 10800000])) := by kernel_rfl
theorem vc_r8All  (K : Value → Prop) : callsX Tryd.prog ([]) (noAnn) 41 [] K = (
 K (Value.agg #[Value.int IntKind.i64 (-10800000), Value.int IntKind.i64 10800000])) := by kernel_rfl
theorem vc_plAll (a b : Int) (K : Value → Prop) : callsX Tryd.prog (ΓEv) (noAnn) 44 [arc a b] K = (
 True ∧ K (Value.bool (a == -10800000 && (b == 10800000 && true)))) := by kernel_rfl
theorem vc_plLon (a b : Int) (K : Value → Prop) : callsX Tryd.prog (ΓAl) (noAnn) 29 [arc a b] K = (
 True ∧ bcase (allB a b) (K (Value.bool true)) (bcase (decide (a ≥ -10800000)) (bcase (decide (a < 10800000)) (bcase (decide (a ≤ b)) (K (Value.bool (decide (IntKind.i64.wrap (b - a) < 21600000)))) (K (Value.bool false))) (K (Value.bool false))) (K (Value.bool false)))) := by kernel_rfl
theorem vc_r8Lon (a b : Int) (K : Value → Prop) : callsX Tryd.prog (ΓAl) (noAnn) 25 [arc a b] K = (
 True ∧ bcase (a == -10800000 && (b == 10800000 && true)) (K (Value.bool true)) (bcase (decide (a ≥ -10800000)) (bcase (decide (a < 10800000)) (bcase (decide (a ≤ b)) (K (Value.bool (decide (b < IntKind.i64.wrap (a + 21600000))))) (K (Value.bool false))) (K (Value.bool false))) (K (Value.bool false)))) := by kernel_rfl
theorem vc_plPrint (a b c d : Int) (pr : Int → Int → ByteArray) (e : Int → Int → Int) (lon : Int → Int → Bool) (K : Value → Prop) : callsX Tryd.prog (ΓPn pr e lon) (noAnn) 12 [.agg ⟨[.int .i64 a, .int .i64 b, .int .i64 c, .int .i64 d]⟩] K = (
 bcase (decide (a ≤ b))
 (bcase (decide (a ≥ -5400000))
 (bcase (decide (b ≤ 5400000))
 (True ∧
 bcase (!lon c d) (K (Value.tuple #[Value.string (ByteArray.mk #[]), Value.int IntKind.i64 1]))
 (True ∧
 True ∧
 bcase (e a b != 0) (K (Value.tuple #[Value.string (ByteArray.mk #[]), Value.int IntKind.i64 (if e c d > e a b then e c d else e a b)]))
 (bcase (e c d != 0) (K (Value.tuple #[Value.string (ByteArray.mk #[]), Value.int IntKind.i64 (if e c d > e a b then e c d else e a b)])) (bcase (tooLong (pr a b) (ByteArray.mk #[59, 32])) False (bcase (tooLong (pr a b ++ ByteArray.mk #[59, 32]) (pr c d)) False (K (Value.tuple #[Value.string (pr a b ++ ByteArray.mk #[59, 32] ++ pr c d), Value.int IntKind.i64 0])))))))
 (K (Value.tuple #[Value.string (ByteArray.mk #[]), Value.int IntKind.i64 1])))
 (K (Value.tuple #[Value.string (ByteArray.mk #[]), Value.int IntKind.i64 1])))
 (K (Value.tuple #[Value.string (ByteArray.mk #[]), Value.int IntKind.i64 1]))) := by kernel_rfl
theorem vc_r8Print (a b c d : Int) (pr : Int → Int → ByteArray) (e : Int → Int → Int) (K : Value → Prop) : callsX Tryd.prog (ΓPq pr e) (noAnn) 14 [.agg ⟨[.int .i64 a, .int .i64 b, .int .i64 c, .int .i64 d]⟩] K = (
 Val a b ∧ Val c d ∧ bcase (tooLong (pr a b) (ByteArray.mk #[59, 32])) False (bcase (tooLong (pr a b ++ ByteArray.mk #[59, 32]) (pr c d)) False (K (Value.string (pr a b ++ ByteArray.mk #[59, 32] ++ pr c d))))) := by kernel_rfl
theorem vc_beyond (a b n : Int) (K : Value → Prop) : callsX Tryd.prog (ΓBy) (noAnn) 45 [arc a b, num n] K = (
 True ∧ K (Value.int IntKind.i64 (IntKind.i64.wrap (n - a) % 21600000))) := by kernel_rfl
theorem vc_lawBack (a b c d : Int) (tx : Int → Int → ByteArray) (te : Int → Int → Int) (pa pb pe : ByteArray → Int) (K : Value → Prop) : callsX Tryd.prog (ΓLB tx te pa pb pe) (noAnn) 3 [arc a b, arc c d] K = (
 True ∧
 True ∧
 True ∧
 bcase (te a b != 0)
 (bcase (decide (a ≥ -5400000))
 (bcase (decide (a ≤ 5400000))
 (bcase (decide (b ≥ -10800000)) (bcase ((te a b == 0) == decide (b < 10800000)) (bcase (decide (c ≥ -5400000)) (bcase (decide (c ≤ 5400000)) (bcase (decide (d ≥ -10800000)) (K (Value.bool ((te c d == 0) == decide (d < 10800000)))) (K (Value.bool ((te c d == 0) == false)))) (K (Value.bool ((te c d == 0) == false)))) (K (Value.bool ((te c d == 0) == false)))) (K (Value.bool false)))
 (bcase ((te a b == 0) == false) (bcase (decide (c ≥ -5400000)) (bcase (decide (c ≤ 5400000)) (bcase (decide (d ≥ -10800000)) (K (Value.bool ((te c d == 0) == decide (d < 10800000)))) (K (Value.bool ((te c d == 0) == false)))) (K (Value.bool ((te c d == 0) == false)))) (K (Value.bool ((te c d == 0) == false)))) (K (Value.bool false))))
 (bcase ((te a b == 0) == false) (bcase (decide (c ≥ -5400000)) (bcase (decide (c ≤ 5400000)) (bcase (decide (d ≥ -10800000)) (K (Value.bool ((te c d == 0) == decide (d < 10800000)))) (K (Value.bool ((te c d == 0) == false)))) (K (Value.bool ((te c d == 0) == false)))) (K (Value.bool ((te c d == 0) == false)))) (K (Value.bool false))))
 (bcase ((te a b == 0) == false) (bcase (decide (c ≥ -5400000)) (bcase (decide (c ≤ 5400000)) (bcase (decide (d ≥ -10800000)) (K (Value.bool ((te c d == 0) == decide (d < 10800000)))) (K (Value.bool ((te c d == 0) == false)))) (K (Value.bool ((te c d == 0) == false)))) (K (Value.bool ((te c d == 0) == false)))) (K (Value.bool false))))
 (bcase (te c d != 0)
 (bcase (decide (a ≥ -5400000))
 (bcase (decide (a ≤ 5400000))
 (bcase (decide (b ≥ -10800000)) (bcase ((te a b == 0) == decide (b < 10800000)) (bcase (decide (c ≥ -5400000)) (bcase (decide (c ≤ 5400000)) (bcase (decide (d ≥ -10800000)) (K (Value.bool ((te c d == 0) == decide (d < 10800000)))) (K (Value.bool ((te c d == 0) == false)))) (K (Value.bool ((te c d == 0) == false)))) (K (Value.bool ((te c d == 0) == false)))) (K (Value.bool false)))
 (bcase ((te a b == 0) == false) (bcase (decide (c ≥ -5400000)) (bcase (decide (c ≤ 5400000)) (bcase (decide (d ≥ -10800000)) (K (Value.bool ((te c d == 0) == decide (d < 10800000)))) (K (Value.bool ((te c d == 0) == false)))) (K (Value.bool ((te c d == 0) == false)))) (K (Value.bool ((te c d == 0) == false)))) (K (Value.bool false))))
 (bcase ((te a b == 0) == false) (bcase (decide (c ≥ -5400000)) (bcase (decide (c ≤ 5400000)) (bcase (decide (d ≥ -10800000)) (K (Value.bool ((te c d == 0) == decide (d < 10800000)))) (K (Value.bool ((te c d == 0) == false)))) (K (Value.bool ((te c d == 0) == false)))) (K (Value.bool ((te c d == 0) == false)))) (K (Value.bool false))))
 (bcase ((te a b == 0) == false) (bcase (decide (c ≥ -5400000)) (bcase (decide (c ≤ 5400000)) (bcase (decide (d ≥ -10800000)) (K (Value.bool ((te c d == 0) == decide (d < 10800000)))) (K (Value.bool ((te c d == 0) == false)))) (K (Value.bool ((te c d == 0) == false)))) (K (Value.bool ((te c d == 0) == false)))) (K (Value.bool false))))
 (SL (tx a b) ∧ bcase (pe (tx a b) == 0) (bcase (pa (tx a b) == a && (pb (tx a b) == b && true)) (K (Value.bool (((tx a b).toList == (tx c d).toList) == (a == c && (b == d && true))))) (K (Value.bool false))) (K (Value.bool false))))) := by kernel_rfl
theorem vc_lawTexts (u v a b c d : Int) (s : ByteArray) (tx rx : Int → Int → ByteArray) (te : Int → Int → Int) (pa pb pe : ByteArray → Int) (pp rp : Int → Int → Int → Int → ByteArray) (pf : Int → Int → Int → Int → Int) (vP : Int → Int → Prop) (vL : Int → Int → Int → Int → Prop) (lon : Int → Int → Bool) (K : Value → Prop) : callsX Tryd.prog (ΓLX tx rx te pa pb pe pp rp pf vP vL lon) (noAnn) 4 [arc u v, .agg ⟨[.int .i64 a, .int .i64 b, .int .i64 c, .int .i64 d]⟩, .string s] K = (
 True ∧
 bcase (decide ((↑s.size : Int) > 60)) (K (Value.bool true))
 (True ∧
 bcase (decide (u ≥ -5400000))
 (bcase (decide (u ≤ 5400000))
 (bcase (decide (v ≥ -10800000))
 (bcase (!decide (v < 10800000))
 (bcase (!(tx u v).toList == []) (K (Value.bool false))
 (bcase (te u v != 1) (K (Value.bool false))
 (SL s ∧
 SL s ∧
 bcase (!(pa s == pa s && (pb s == pb s && true))) (K (Value.bool false))
 (bcase (pe s != pe s) (K (Value.bool false))
 (CdOk c d ∧
 bcase (decide (a ≥ -5400000))
 (bcase (decide (a ≤ b)) (bcase (decide (b ≤ 5400000)) (True ∧ bcase (!lon c d) (bcase ((pp a b c d).toList == []) (K (Value.bool (pf a b c d == 1))) (K (Value.bool false))) (bcase (pf a b c d == 0) (vL a b c d ∧ K (Value.bool ((pp a b c d).toList == (rp a b c d).toList))) (K (Value.bool false)))) (bcase ((pp a b c d).toList == []) (K (Value.bool (pf a b c d == 1))) (K (Value.bool false))))
 (bcase ((pp a b c d).toList == []) (K (Value.bool (pf a b c d == 1))) (K (Value.bool false))))
 (bcase ((pp a b c d).toList == []) (K (Value.bool (pf a b c d == 1))) (K (Value.bool false))))))))
 (bcase (te u v != 0) (K (Value.bool false))
 (vP u v ∧
 bcase (!(tx u v).toList == (rx u v).toList) (K (Value.bool false))
 (SL s ∧
 SL s ∧
 bcase (!(pa s == pa s && (pb s == pb s && true))) (K (Value.bool false))
 (bcase (pe s != pe s) (K (Value.bool false))
 (CdOk c d ∧
 bcase (decide (a ≥ -5400000))
 (bcase (decide (a ≤ b)) (bcase (decide (b ≤ 5400000)) (True ∧ bcase (!lon c d) (bcase ((pp a b c d).toList == []) (K (Value.bool (pf a b c d == 1))) (K (Value.bool false))) (bcase (pf a b c d == 0) (vL a b c d ∧ K (Value.bool ((pp a b c d).toList == (rp a b c d).toList))) (K (Value.bool false)))) (bcase ((pp a b c d).toList == []) (K (Value.bool (pf a b c d == 1))) (K (Value.bool false))))
 (bcase ((pp a b c d).toList == []) (K (Value.bool (pf a b c d == 1))) (K (Value.bool false))))
 (bcase ((pp a b c d).toList == []) (K (Value.bool (pf a b c d == 1))) (K (Value.bool false)))))))))
 (bcase (!(tx u v).toList == []) (K (Value.bool false))
 (bcase (te u v != 1) (K (Value.bool false))
 (SL s ∧
 SL s ∧
 bcase (!(pa s == pa s && (pb s == pb s && true))) (K (Value.bool false))
 (bcase (pe s != pe s) (K (Value.bool false))
 (CdOk c d ∧
 bcase (decide (a ≥ -5400000))
 (bcase (decide (a ≤ b)) (bcase (decide (b ≤ 5400000)) (True ∧ bcase (!lon c d) (bcase ((pp a b c d).toList == []) (K (Value.bool (pf a b c d == 1))) (K (Value.bool false))) (bcase (pf a b c d == 0) (vL a b c d ∧ K (Value.bool ((pp a b c d).toList == (rp a b c d).toList))) (K (Value.bool false)))) (bcase ((pp a b c d).toList == []) (K (Value.bool (pf a b c d == 1))) (K (Value.bool false))))
 (bcase ((pp a b c d).toList == []) (K (Value.bool (pf a b c d == 1))) (K (Value.bool false))))
 (bcase ((pp a b c d).toList == []) (K (Value.bool (pf a b c d == 1))) (K (Value.bool false)))))))))
 (bcase (!(tx u v).toList == []) (K (Value.bool false))
 (bcase (te u v != 1) (K (Value.bool false))
 (SL s ∧
 SL s ∧
 bcase (!(pa s == pa s && (pb s == pb s && true))) (K (Value.bool false))
 (bcase (pe s != pe s) (K (Value.bool false))
 (CdOk c d ∧
 bcase (decide (a ≥ -5400000))
 (bcase (decide (a ≤ b)) (bcase (decide (b ≤ 5400000)) (True ∧ bcase (!lon c d) (bcase ((pp a b c d).toList == []) (K (Value.bool (pf a b c d == 1))) (K (Value.bool false))) (bcase (pf a b c d == 0) (vL a b c d ∧ K (Value.bool ((pp a b c d).toList == (rp a b c d).toList))) (K (Value.bool false)))) (bcase ((pp a b c d).toList == []) (K (Value.bool (pf a b c d == 1))) (K (Value.bool false))))
 (bcase ((pp a b c d).toList == []) (K (Value.bool (pf a b c d == 1))) (K (Value.bool false))))
 (bcase ((pp a b c d).toList == []) (K (Value.bool (pf a b c d == 1))) (K (Value.bool false)))))))))
 (bcase (!(tx u v).toList == []) (K (Value.bool false))
 (bcase (te u v != 1) (K (Value.bool false))
 (SL s ∧
 SL s ∧
 bcase (!(pa s == pa s && (pb s == pb s && true))) (K (Value.bool false))
 (bcase (pe s != pe s) (K (Value.bool false))
 (CdOk c d ∧
 bcase (decide (a ≥ -5400000))
 (bcase (decide (a ≤ b)) (bcase (decide (b ≤ 5400000)) (True ∧ bcase (!lon c d) (bcase ((pp a b c d).toList == []) (K (Value.bool (pf a b c d == 1))) (K (Value.bool false))) (bcase (pf a b c d == 0) (vL a b c d ∧ K (Value.bool ((pp a b c d).toList == (rp a b c d).toList))) (K (Value.bool false)))) (bcase ((pp a b c d).toList == []) (K (Value.bool (pf a b c d == 1))) (K (Value.bool false))))
 (bcase ((pp a b c d).toList == []) (K (Value.bool (pf a b c d == 1))) (K (Value.bool false))))
 (bcase ((pp a b c d).toList == []) (K (Value.bool (pf a b c d == 1))) (K (Value.bool false)))))))))) := by kernel_rfl
end Go.Proofs.YtbpeakgiajcfeaaDoor
