/- What the reference's functions ask. -/
import Derived.Test.YtmghbedgfnlpoaaDoorSpecR
namespace Go.Proofs.YtmghbedgfnlpoaaDoor
open Go Go.Abs Go.RowKit
set_option linter.unusedVariables false
set_option linter.unusedSimpArgs false
theorem vc_trim (l : List Int) : rcallsX Tryd.prog ([]) (ATrim l) 40 [.one (dR l)] [.one (dR (dig (nv l)))] = (
 ∃ (s : Nat),
 (l.length = l.length ∧ Value.tuple #[] = Value.tuple #[] ∧ Value.slice none 0 0 = Value.slice none 0 0 ∧ (↑l.length : Int) = (↑s : Int) ∧ l = l ∧ True) ∧
 (s ≤ l.length ∧ dvI (List.take s l) = dvI l) ∧
 ∀ (s : Nat),
 s ≤ l.length ∧ dvI (List.take s l) = dvI l →
 bcase (decide ((↑s : Int) > 0))
 (bcase (inB (IntKind.i64.wrap ((↑s : Int) - 1)) l.length)
 (bcase ((IntKind.i64.wrap ((↑s : Int) - 1)).toNat.blt l.length)
 (bcase (l.getD (IntKind.i64.wrap ((↑s : Int) - 1)).toNat 0 == 0) (∃ (s_1 : Nat), (l.length = l.length ∧ Value.tuple #[] = Value.tuple #[] ∧ Value.slice none 0 0 = Value.slice none 0 0 ∧ IntKind.i64.wrap ((↑s : Int) - 1) = (↑s_1 : Int) ∧ l = l ∧ True) ∧ (s_1 ≤ l.length ∧ dvI (List.take s_1 l) = dvI l) ∧ s_1 < s)
 (bcase (decide (0 ≤ 0) && (decide (0 ≤ (↑s : Int)) && decide ((↑s : Int) ≤ (↑l.length : Int))) && l.length.beq l.length) (0 + ((↑s : Int).toNat - 0) ≤ l.length ∧ bcase (capOk (0 + ((↑s : Int).toNat - 0)) 8) (0 + ((↑s : Int).toNat - 0) = ([] ++ List.take ((↑s : Int).toNat - 0) l).length ∧ [] ++ List.take ((↑s : Int).toNat - 0) l = dig (nv l) ∧ True) False) False))
 False)
 False)
 (bcase (decide (0 ≤ 0) && (decide (0 ≤ (↑s : Int)) && decide ((↑s : Int) ≤ (↑l.length : Int))) && l.length.beq l.length) (0 + ((↑s : Int).toNat - 0) ≤ l.length ∧ bcase (capOk (0 + ((↑s : Int).toNat - 0)) 8) (0 + ((↑s : Int).toNat - 0) = ([] ++ List.take ((↑s : Int).toNat - 0) l).length ∧ [] ++ List.take ((↑s : Int).toNat - 0) l = dig (nv l) ∧ True) False) False)) := by kernel_rfl
theorem vc_ofInt (n : Int) : rcallsX Tryd.prog ([]) (AOfInt n) 39 [.one (.v (.int .i64 n))] [numR n] = (
 ∃ (s : Int × List Int),
 (n = s.fst ∧ Value.tuple #[] = Value.tuple #[] ∧ Value.slice none 0 0 = Value.slice none 0 0 ∧ false = false ∧ s.snd.length = 0 ∧ decide (n < 0) = decide (n < 0) ∧ s.snd = [] ∧ True) ∧
 (I64 s.fst ∧ s.snd ++ dig s.fst.natAbs = dig n.natAbs ∧ (n < 0 → s.fst ≤ 0) ∧ (¬n < 0 → 0 ≤ s.fst)) ∧
 ∀ (s : Int × List Int),
 I64 s.fst ∧ s.snd ++ dig s.fst.natAbs = dig n.natAbs ∧ (n < 0 → s.fst ≤ 0) ∧ (¬n < 0 → 0 ≤ s.fst) →
 bcase (s.fst != 0)
 (bcase (decide (s.fst.tmod 268435456 < 0))
 (s.snd.length = s.snd.length ∧
 bcase (capOk (s.snd.length + 1) 8)
 (∃ (s_1 : Int × List Int),
 (IntKind.i64.wrap (s.fst.tdiv 268435456) = s_1.fst ∧ Value.tuple #[] = Value.tuple #[] ∧ Value.slice none 0 0 = Value.slice none 0 0 ∧ false = false ∧ s.snd.length + 1 = s_1.snd.length ∧ s.snd.length + 1 ≠ 0 ∧ decide (n < 0) = decide (n < 0) ∧ s.snd ++ [IntKind.i64.wrap (0 - s.fst.tmod 268435456)] = s_1.snd ∧ True) ∧
 (I64 s_1.fst ∧ s_1.snd ++ dig s_1.fst.natAbs = dig n.natAbs ∧ (n < 0 → s_1.fst ≤ 0) ∧ (¬n < 0 → 0 ≤ s_1.fst)) ∧ s_1.fst.natAbs < s.fst.natAbs)
 False)
 (s.snd.length = s.snd.length ∧
 bcase (capOk (s.snd.length + 1) 8)
 (∃ (s_1 : Int × List Int),
 (IntKind.i64.wrap (s.fst.tdiv 268435456) = s_1.fst ∧ Value.tuple #[] = Value.tuple #[] ∧ Value.slice none 0 0 = Value.slice none 0 0 ∧ false = false ∧ s.snd.length + 1 = s_1.snd.length ∧ s.snd.length + 1 ≠ 0 ∧ decide (n < 0) = decide (n < 0) ∧ s.snd ++ [s.fst.tmod 268435456] = s_1.snd ∧ True) ∧
 (I64 s_1.fst ∧ s_1.snd ++ dig s_1.fst.natAbs = dig n.natAbs ∧ (n < 0 → s_1.fst ≤ 0) ∧ (¬n < 0 → 0 ≤ s_1.fst)) ∧ s_1.fst.natAbs < s.fst.natAbs)
 False))
 (s.snd.length = s.snd.length ∧ s.snd = dig n.natAbs ∧ Value.bool (decide (n < 0)) = Value.bool (decide (n < 0)) ∧ True)) := by kernel_rfl
theorem vc_order (a b : List Int) : rcallsX Tryd.prog ([]) (AOrder a b) 41 [.one (dR a), .one (dR b)] [.one (.v (.int .i64 (ordI (nv a) (nv b))))] = (
 bcase ((↑a.length : Int) != (↑b.length : Int)) (bcase (decide ((↑a.length : Int) < (↑b.length : Int))) (Value.int IntKind.i64 (-1) = Value.int IntKind.i64 (ordI (↑(nv a) : Int) (↑(nv b) : Int)) ∧ True) (Value.int IntKind.i64 1 = Value.int IntKind.i64 (ordI (↑(nv a) : Int) (↑(nv b) : Int)) ∧ True))
 (∃ (s : Nat),
 (a.length = a.length ∧ b.length = b.length ∧ Value.tuple #[] = Value.tuple #[] ∧ Value.tuple #[] = Value.tuple #[] ∧ Int.ofNat 0 = 0 ∧ IntKind.i64.wrap ((↑a.length : Int) - 1) = (↑s : Int) - 1 ∧ a = a ∧ b = b ∧ True) ∧
 (s ≤ a.length ∧ a.length = b.length ∧ List.drop s a = List.drop s b) ∧
 ∀ (s : Nat),
 s ≤ a.length ∧ a.length = b.length ∧ List.drop s a = List.drop s b →
 bcase (decide ((↑s : Int) - 1 ≥ 0))
 (bcase (inB ((↑s : Int) - 1) a.length)
 (bcase (((↑s : Int) - 1).toNat.blt a.length)
 (bcase (inB ((↑s : Int) - 1) b.length)
 (bcase (((↑s : Int) - 1).toNat.blt b.length)
 (bcase (decide (a.getD ((↑s : Int) - 1).toNat 0 < b.getD ((↑s : Int) - 1).toNat 0)) (Value.int IntKind.i64 (-1) = Value.int IntKind.i64 (ordI (↑(nv a) : Int) (↑(nv b) : Int)) ∧ True)
 (bcase (inB ((↑s : Int) - 1) a.length)
 (bcase (((↑s : Int) - 1).toNat.blt a.length)
 (bcase (inB ((↑s : Int) - 1) b.length)
 (bcase (((↑s : Int) - 1).toNat.blt b.length)
 (bcase (decide (a.getD ((↑s : Int) - 1).toNat 0 > b.getD ((↑s : Int) - 1).toNat 0)) (Value.int IntKind.i64 1 = Value.int IntKind.i64 (ordI (↑(nv a) : Int) (↑(nv b) : Int)) ∧ True)
 (∃ (s_1 : Nat), (a.length = a.length ∧ b.length = b.length ∧ Value.tuple #[] = Value.tuple #[] ∧ Value.tuple #[] = Value.tuple #[] ∧ Int.ofNat 0 = 0 ∧ IntKind.i64.wrap ((↑s : Int) - 1 - 1) = (↑s_1 : Int) - 1 ∧ a = a ∧ b = b ∧ True) ∧ (s_1 ≤ a.length ∧ a.length = b.length ∧ List.drop s_1 a = List.drop s_1 b) ∧ s_1 < s))
 False)
 False)
 False)
 False))
 False)
 False)
 False)
 False)
 (Value.int IntKind.i64 0 = Value.int IntKind.i64 (ordI (↑(nv a) : Int) (↑(nv b) : Int)) ∧ True))) := by kernel_rfl
theorem vc_sum (a b : List Int) : rcallsX Tryd.prog ([]) (ASum a b) 57 [.one (dR a), .one (dR b)] [.one (dR (dig (nv a + nv b)))] = (
 ∃ (s : Int × List Int),
 (a.length = a.length ∧ b.length = b.length ∧ Value.tuple #[] = Value.tuple #[] ∧ Value.tuple #[] = Value.tuple #[] ∧ Value.slice none 0 0 = Value.slice none 0 0 ∧ s.snd.length = 0 ∧ 0 = s.fst ∧ 0 = (↑s.snd.length : Int) ∧ a = a ∧ b = b ∧ s.snd = [] ∧ True) ∧
 (0 ≤ s.fst ∧ s.fst ≤ 1 ∧ Dgs s.snd ∧ s.snd.length + s.fst.toNat ≤ max a.length b.length + 1 ∧ (s.snd.length < max a.length b.length ∨ s.fst = 1 ∨ dig (nv s.snd) = s.snd) ∧ dvI s.snd + 268435456 ^ s.snd.length * (s.fst + dvI (List.drop s.snd.length a) + dvI (List.drop s.snd.length b)) = dvI a + dvI b) ∧
 ∀ (s : Int × List Int),
 0 ≤ s.fst ∧ s.fst ≤ 1 ∧ Dgs s.snd ∧ s.snd.length + s.fst.toNat ≤ max a.length b.length + 1 ∧ (s.snd.length < max a.length b.length ∨ s.fst = 1 ∨ dig (nv s.snd) = s.snd) ∧ dvI s.snd + 268435456 ^ s.snd.length * (s.fst + dvI (List.drop s.snd.length a) + dvI (List.drop s.snd.length b)) = dvI a + dvI b →
 bcase (decide ((↑s.snd.length : Int) < (↑a.length : Int)))
 (bcase (decide ((↑s.snd.length : Int) < (↑a.length : Int)))
 (bcase (inB (↑s.snd.length : Int) a.length)
 (bcase ((↑s.snd.length : Int).toNat.blt a.length)
 (bcase (decide ((↑s.snd.length : Int) < (↑b.length : Int)))
 (bcase (inB (↑s.snd.length : Int) b.length)
 (bcase ((↑s.snd.length : Int).toNat.blt b.length)
 (s.snd.length = s.snd.length ∧
 bcase (capOk (s.snd.length + 1) 8)
 (∃ (s_1 : Int × List Int),
 (a.length = a.length ∧
 b.length = b.length ∧
 Value.tuple #[] = Value.tuple #[] ∧
 Value.tuple #[] = Value.tuple #[] ∧
 Value.slice none 0 0 = Value.slice none 0 0 ∧
 s.snd.length + 1 = s_1.snd.length ∧
 s.snd.length + 1 ≠ 0 ∧
 IntKind.i64.wrap ((IntKind.i64.wrap (IntKind.i64.wrap (s.fst + a.getD (↑s.snd.length : Int).toNat 0) + b.getD (↑s.snd.length : Int).toNat 0)).tdiv 268435456) = s_1.fst ∧
 IntKind.i64.wrap ((↑s.snd.length : Int) + 1) = (↑s_1.snd.length : Int) ∧ a = a ∧ b = b ∧ s.snd ++ [(IntKind.i64.wrap (IntKind.i64.wrap (s.fst + a.getD (↑s.snd.length : Int).toNat 0) + b.getD (↑s.snd.length : Int).toNat 0)).tmod 268435456] = s_1.snd ∧ True) ∧
 (0 ≤ s_1.fst ∧ s_1.fst ≤ 1 ∧ Dgs s_1.snd ∧ s_1.snd.length + s_1.fst.toNat ≤ max a.length b.length + 1 ∧ (s_1.snd.length < max a.length b.length ∨ s_1.fst = 1 ∨ dig (nv s_1.snd) = s_1.snd) ∧ dvI s_1.snd + 268435456 ^ s_1.snd.length * (s_1.fst + dvI (List.drop s_1.snd.length a) + dvI (List.drop s_1.snd.length b)) = dvI a + dvI b) ∧
 a.length - s_1.snd.length + (b.length - s_1.snd.length) + s_1.fst.toNat < a.length - s.snd.length + (b.length - s.snd.length) + s.fst.toNat)
 False)
 False)
 False)
 (s.snd.length = s.snd.length ∧
 bcase (capOk (s.snd.length + 1) 8)
 (∃ (s_1 : Int × List Int),
 (a.length = a.length ∧
 b.length = b.length ∧
 Value.tuple #[] = Value.tuple #[] ∧
 Value.tuple #[] = Value.tuple #[] ∧
 Value.slice none 0 0 = Value.slice none 0 0 ∧
 s.snd.length + 1 = s_1.snd.length ∧ s.snd.length + 1 ≠ 0 ∧ IntKind.i64.wrap ((IntKind.i64.wrap (s.fst + a.getD (↑s.snd.length : Int).toNat 0)).tdiv 268435456) = s_1.fst ∧ IntKind.i64.wrap ((↑s.snd.length : Int) + 1) = (↑s_1.snd.length : Int) ∧ a = a ∧ b = b ∧ s.snd ++ [(IntKind.i64.wrap (s.fst + a.getD (↑s.snd.length : Int).toNat 0)).tmod 268435456] = s_1.snd ∧ True) ∧
 (0 ≤ s_1.fst ∧ s_1.fst ≤ 1 ∧ Dgs s_1.snd ∧ s_1.snd.length + s_1.fst.toNat ≤ max a.length b.length + 1 ∧ (s_1.snd.length < max a.length b.length ∨ s_1.fst = 1 ∨ dig (nv s_1.snd) = s_1.snd) ∧ dvI s_1.snd + 268435456 ^ s_1.snd.length * (s_1.fst + dvI (List.drop s_1.snd.length a) + dvI (List.drop s_1.snd.length b)) = dvI a + dvI b) ∧
 a.length - s_1.snd.length + (b.length - s_1.snd.length) + s_1.fst.toNat < a.length - s.snd.length + (b.length - s.snd.length) + s.fst.toNat)
 False))
 False)
 False)
 (bcase (decide ((↑s.snd.length : Int) < (↑b.length : Int)))
 (bcase (inB (↑s.snd.length : Int) b.length)
 (bcase ((↑s.snd.length : Int).toNat.blt b.length)
 (s.snd.length = s.snd.length ∧
 bcase (capOk (s.snd.length + 1) 8)
 (∃ (s_1 : Int × List Int),
 (a.length = a.length ∧
 b.length = b.length ∧
 Value.tuple #[] = Value.tuple #[] ∧
 Value.tuple #[] = Value.tuple #[] ∧
 Value.slice none 0 0 = Value.slice none 0 0 ∧
 s.snd.length + 1 = s_1.snd.length ∧ s.snd.length + 1 ≠ 0 ∧ IntKind.i64.wrap ((IntKind.i64.wrap (s.fst + b.getD (↑s.snd.length : Int).toNat 0)).tdiv 268435456) = s_1.fst ∧ IntKind.i64.wrap ((↑s.snd.length : Int) + 1) = (↑s_1.snd.length : Int) ∧ a = a ∧ b = b ∧ s.snd ++ [(IntKind.i64.wrap (s.fst + b.getD (↑s.snd.length : Int).toNat 0)).tmod 268435456] = s_1.snd ∧ True) ∧
 (0 ≤ s_1.fst ∧ s_1.fst ≤ 1 ∧ Dgs s_1.snd ∧ s_1.snd.length + s_1.fst.toNat ≤ max a.length b.length + 1 ∧ (s_1.snd.length < max a.length b.length ∨ s_1.fst = 1 ∨ dig (nv s_1.snd) = s_1.snd) ∧ dvI s_1.snd + 268435456 ^ s_1.snd.length * (s_1.fst + dvI (List.drop s_1.snd.length a) + dvI (List.drop s_1.snd.length b)) = dvI a + dvI b) ∧
 a.length - s_1.snd.length + (b.length - s_1.snd.length) + s_1.fst.toNat < a.length - s.snd.length + (b.length - s.snd.length) + s.fst.toNat)
 False)
 False)
 False)
 (s.snd.length = s.snd.length ∧
 bcase (capOk (s.snd.length + 1) 8)
 (∃ (s_1 : Int × List Int),
 (a.length = a.length ∧
 b.length = b.length ∧ Value.tuple #[] = Value.tuple #[] ∧ Value.tuple #[] = Value.tuple #[] ∧ Value.slice none 0 0 = Value.slice none 0 0 ∧ s.snd.length + 1 = s_1.snd.length ∧ s.snd.length + 1 ≠ 0 ∧ IntKind.i64.wrap (s.fst.tdiv 268435456) = s_1.fst ∧ IntKind.i64.wrap ((↑s.snd.length : Int) + 1) = (↑s_1.snd.length : Int) ∧ a = a ∧ b = b ∧ s.snd ++ [s.fst.tmod 268435456] = s_1.snd ∧ True) ∧
 (0 ≤ s_1.fst ∧ s_1.fst ≤ 1 ∧ Dgs s_1.snd ∧ s_1.snd.length + s_1.fst.toNat ≤ max a.length b.length + 1 ∧ (s_1.snd.length < max a.length b.length ∨ s_1.fst = 1 ∨ dig (nv s_1.snd) = s_1.snd) ∧ dvI s_1.snd + 268435456 ^ s_1.snd.length * (s_1.fst + dvI (List.drop s_1.snd.length a) + dvI (List.drop s_1.snd.length b)) = dvI a + dvI b) ∧
 a.length - s_1.snd.length + (b.length - s_1.snd.length) + s_1.fst.toNat < a.length - s.snd.length + (b.length - s.snd.length) + s.fst.toNat)
 False)))
 (bcase (decide ((↑s.snd.length : Int) < (↑b.length : Int)))
 (bcase (decide ((↑s.snd.length : Int) < (↑a.length : Int)))
 (bcase (inB (↑s.snd.length : Int) a.length)
 (bcase ((↑s.snd.length : Int).toNat.blt a.length)
 (bcase (decide ((↑s.snd.length : Int) < (↑b.length : Int)))
 (bcase (inB (↑s.snd.length : Int) b.length)
 (bcase ((↑s.snd.length : Int).toNat.blt b.length)
 (s.snd.length = s.snd.length ∧
 bcase (capOk (s.snd.length + 1) 8)
 (∃ (s_1 : Int × List Int),
 (a.length = a.length ∧
 b.length = b.length ∧
 Value.tuple #[] = Value.tuple #[] ∧
 Value.tuple #[] = Value.tuple #[] ∧
 Value.slice none 0 0 = Value.slice none 0 0 ∧
 s.snd.length + 1 = s_1.snd.length ∧
 s.snd.length + 1 ≠ 0 ∧
 IntKind.i64.wrap ((IntKind.i64.wrap (IntKind.i64.wrap (s.fst + a.getD (↑s.snd.length : Int).toNat 0) + b.getD (↑s.snd.length : Int).toNat 0)).tdiv 268435456) = s_1.fst ∧
 IntKind.i64.wrap ((↑s.snd.length : Int) + 1) = (↑s_1.snd.length : Int) ∧ a = a ∧ b = b ∧ s.snd ++ [(IntKind.i64.wrap (IntKind.i64.wrap (s.fst + a.getD (↑s.snd.length : Int).toNat 0) + b.getD (↑s.snd.length : Int).toNat 0)).tmod 268435456] = s_1.snd ∧ True) ∧
 (0 ≤ s_1.fst ∧ s_1.fst ≤ 1 ∧ Dgs s_1.snd ∧ s_1.snd.length + s_1.fst.toNat ≤ max a.length b.length + 1 ∧ (s_1.snd.length < max a.length b.length ∨ s_1.fst = 1 ∨ dig (nv s_1.snd) = s_1.snd) ∧ dvI s_1.snd + 268435456 ^ s_1.snd.length * (s_1.fst + dvI (List.drop s_1.snd.length a) + dvI (List.drop s_1.snd.length b)) = dvI a + dvI b) ∧
 a.length - s_1.snd.length + (b.length - s_1.snd.length) + s_1.fst.toNat < a.length - s.snd.length + (b.length - s.snd.length) + s.fst.toNat)
 False)
 False)
 False)
 (s.snd.length = s.snd.length ∧
 bcase (capOk (s.snd.length + 1) 8)
 (∃ (s_1 : Int × List Int),
 (a.length = a.length ∧
 b.length = b.length ∧
 Value.tuple #[] = Value.tuple #[] ∧
 Value.tuple #[] = Value.tuple #[] ∧
 Value.slice none 0 0 = Value.slice none 0 0 ∧
 s.snd.length + 1 = s_1.snd.length ∧ s.snd.length + 1 ≠ 0 ∧ IntKind.i64.wrap ((IntKind.i64.wrap (s.fst + a.getD (↑s.snd.length : Int).toNat 0)).tdiv 268435456) = s_1.fst ∧ IntKind.i64.wrap ((↑s.snd.length : Int) + 1) = (↑s_1.snd.length : Int) ∧ a = a ∧ b = b ∧ s.snd ++ [(IntKind.i64.wrap (s.fst + a.getD (↑s.snd.length : Int).toNat 0)).tmod 268435456] = s_1.snd ∧ True) ∧
 (0 ≤ s_1.fst ∧ s_1.fst ≤ 1 ∧ Dgs s_1.snd ∧ s_1.snd.length + s_1.fst.toNat ≤ max a.length b.length + 1 ∧ (s_1.snd.length < max a.length b.length ∨ s_1.fst = 1 ∨ dig (nv s_1.snd) = s_1.snd) ∧ dvI s_1.snd + 268435456 ^ s_1.snd.length * (s_1.fst + dvI (List.drop s_1.snd.length a) + dvI (List.drop s_1.snd.length b)) = dvI a + dvI b) ∧
 a.length - s_1.snd.length + (b.length - s_1.snd.length) + s_1.fst.toNat < a.length - s.snd.length + (b.length - s.snd.length) + s.fst.toNat)
 False))
 False)
 False)
 (bcase (decide ((↑s.snd.length : Int) < (↑b.length : Int)))
 (bcase (inB (↑s.snd.length : Int) b.length)
 (bcase ((↑s.snd.length : Int).toNat.blt b.length)
 (s.snd.length = s.snd.length ∧
 bcase (capOk (s.snd.length + 1) 8)
 (∃ (s_1 : Int × List Int),
 (a.length = a.length ∧
 b.length = b.length ∧
 Value.tuple #[] = Value.tuple #[] ∧
 Value.tuple #[] = Value.tuple #[] ∧
 Value.slice none 0 0 = Value.slice none 0 0 ∧
 s.snd.length + 1 = s_1.snd.length ∧ s.snd.length + 1 ≠ 0 ∧ IntKind.i64.wrap ((IntKind.i64.wrap (s.fst + b.getD (↑s.snd.length : Int).toNat 0)).tdiv 268435456) = s_1.fst ∧ IntKind.i64.wrap ((↑s.snd.length : Int) + 1) = (↑s_1.snd.length : Int) ∧ a = a ∧ b = b ∧ s.snd ++ [(IntKind.i64.wrap (s.fst + b.getD (↑s.snd.length : Int).toNat 0)).tmod 268435456] = s_1.snd ∧ True) ∧
 (0 ≤ s_1.fst ∧ s_1.fst ≤ 1 ∧ Dgs s_1.snd ∧ s_1.snd.length + s_1.fst.toNat ≤ max a.length b.length + 1 ∧ (s_1.snd.length < max a.length b.length ∨ s_1.fst = 1 ∨ dig (nv s_1.snd) = s_1.snd) ∧ dvI s_1.snd + 268435456 ^ s_1.snd.length * (s_1.fst + dvI (List.drop s_1.snd.length a) + dvI (List.drop s_1.snd.length b)) = dvI a + dvI b) ∧
 a.length - s_1.snd.length + (b.length - s_1.snd.length) + s_1.fst.toNat < a.length - s.snd.length + (b.length - s.snd.length) + s.fst.toNat)
 False)
 False)
 False)
 (s.snd.length = s.snd.length ∧
 bcase (capOk (s.snd.length + 1) 8)
 (∃ (s_1 : Int × List Int),
 (a.length = a.length ∧
 b.length = b.length ∧ Value.tuple #[] = Value.tuple #[] ∧ Value.tuple #[] = Value.tuple #[] ∧ Value.slice none 0 0 = Value.slice none 0 0 ∧ s.snd.length + 1 = s_1.snd.length ∧ s.snd.length + 1 ≠ 0 ∧ IntKind.i64.wrap (s.fst.tdiv 268435456) = s_1.fst ∧ IntKind.i64.wrap ((↑s.snd.length : Int) + 1) = (↑s_1.snd.length : Int) ∧ a = a ∧ b = b ∧ s.snd ++ [s.fst.tmod 268435456] = s_1.snd ∧ True) ∧
 (0 ≤ s_1.fst ∧ s_1.fst ≤ 1 ∧ Dgs s_1.snd ∧ s_1.snd.length + s_1.fst.toNat ≤ max a.length b.length + 1 ∧ (s_1.snd.length < max a.length b.length ∨ s_1.fst = 1 ∨ dig (nv s_1.snd) = s_1.snd) ∧ dvI s_1.snd + 268435456 ^ s_1.snd.length * (s_1.fst + dvI (List.drop s_1.snd.length a) + dvI (List.drop s_1.snd.length b)) = dvI a + dvI b) ∧
 a.length - s_1.snd.length + (b.length - s_1.snd.length) + s_1.fst.toNat < a.length - s.snd.length + (b.length - s.snd.length) + s.fst.toNat)
 False)))
 (bcase (decide (s.fst > 0))
 (bcase (decide ((↑s.snd.length : Int) < (↑a.length : Int)))
 (bcase (inB (↑s.snd.length : Int) a.length)
 (bcase ((↑s.snd.length : Int).toNat.blt a.length)
 (bcase (decide ((↑s.snd.length : Int) < (↑b.length : Int)))
 (bcase (inB (↑s.snd.length : Int) b.length)
 (bcase ((↑s.snd.length : Int).toNat.blt b.length)
 (s.snd.length = s.snd.length ∧
 bcase (capOk (s.snd.length + 1) 8)
 (∃ (s_1 : Int × List Int),
 (a.length = a.length ∧
 b.length = b.length ∧
 Value.tuple #[] = Value.tuple #[] ∧
 Value.tuple #[] = Value.tuple #[] ∧
 Value.slice none 0 0 = Value.slice none 0 0 ∧
 s.snd.length + 1 = s_1.snd.length ∧
 s.snd.length + 1 ≠ 0 ∧
 IntKind.i64.wrap ((IntKind.i64.wrap (IntKind.i64.wrap (s.fst + a.getD (↑s.snd.length : Int).toNat 0) + b.getD (↑s.snd.length : Int).toNat 0)).tdiv 268435456) = s_1.fst ∧
 IntKind.i64.wrap ((↑s.snd.length : Int) + 1) = (↑s_1.snd.length : Int) ∧ a = a ∧ b = b ∧ s.snd ++ [(IntKind.i64.wrap (IntKind.i64.wrap (s.fst + a.getD (↑s.snd.length : Int).toNat 0) + b.getD (↑s.snd.length : Int).toNat 0)).tmod 268435456] = s_1.snd ∧ True) ∧
 (0 ≤ s_1.fst ∧ s_1.fst ≤ 1 ∧ Dgs s_1.snd ∧ s_1.snd.length + s_1.fst.toNat ≤ max a.length b.length + 1 ∧ (s_1.snd.length < max a.length b.length ∨ s_1.fst = 1 ∨ dig (nv s_1.snd) = s_1.snd) ∧ dvI s_1.snd + 268435456 ^ s_1.snd.length * (s_1.fst + dvI (List.drop s_1.snd.length a) + dvI (List.drop s_1.snd.length b)) = dvI a + dvI b) ∧
 a.length - s_1.snd.length + (b.length - s_1.snd.length) + s_1.fst.toNat < a.length - s.snd.length + (b.length - s.snd.length) + s.fst.toNat)
 False)
 False)
 False)
 (s.snd.length = s.snd.length ∧
 bcase (capOk (s.snd.length + 1) 8)
 (∃ (s_1 : Int × List Int),
 (a.length = a.length ∧
 b.length = b.length ∧
 Value.tuple #[] = Value.tuple #[] ∧
 Value.tuple #[] = Value.tuple #[] ∧
 Value.slice none 0 0 = Value.slice none 0 0 ∧
 s.snd.length + 1 = s_1.snd.length ∧ s.snd.length + 1 ≠ 0 ∧ IntKind.i64.wrap ((IntKind.i64.wrap (s.fst + a.getD (↑s.snd.length : Int).toNat 0)).tdiv 268435456) = s_1.fst ∧ IntKind.i64.wrap ((↑s.snd.length : Int) + 1) = (↑s_1.snd.length : Int) ∧ a = a ∧ b = b ∧ s.snd ++ [(IntKind.i64.wrap (s.fst + a.getD (↑s.snd.length : Int).toNat 0)).tmod 268435456] = s_1.snd ∧ True) ∧
 (0 ≤ s_1.fst ∧ s_1.fst ≤ 1 ∧ Dgs s_1.snd ∧ s_1.snd.length + s_1.fst.toNat ≤ max a.length b.length + 1 ∧ (s_1.snd.length < max a.length b.length ∨ s_1.fst = 1 ∨ dig (nv s_1.snd) = s_1.snd) ∧ dvI s_1.snd + 268435456 ^ s_1.snd.length * (s_1.fst + dvI (List.drop s_1.snd.length a) + dvI (List.drop s_1.snd.length b)) = dvI a + dvI b) ∧
 a.length - s_1.snd.length + (b.length - s_1.snd.length) + s_1.fst.toNat < a.length - s.snd.length + (b.length - s.snd.length) + s.fst.toNat)
 False))
 False)
 False)
 (bcase (decide ((↑s.snd.length : Int) < (↑b.length : Int)))
 (bcase (inB (↑s.snd.length : Int) b.length)
 (bcase ((↑s.snd.length : Int).toNat.blt b.length)
 (s.snd.length = s.snd.length ∧
 bcase (capOk (s.snd.length + 1) 8)
 (∃ (s_1 : Int × List Int),
 (a.length = a.length ∧
 b.length = b.length ∧
 Value.tuple #[] = Value.tuple #[] ∧
 Value.tuple #[] = Value.tuple #[] ∧
 Value.slice none 0 0 = Value.slice none 0 0 ∧
 s.snd.length + 1 = s_1.snd.length ∧ s.snd.length + 1 ≠ 0 ∧ IntKind.i64.wrap ((IntKind.i64.wrap (s.fst + b.getD (↑s.snd.length : Int).toNat 0)).tdiv 268435456) = s_1.fst ∧ IntKind.i64.wrap ((↑s.snd.length : Int) + 1) = (↑s_1.snd.length : Int) ∧ a = a ∧ b = b ∧ s.snd ++ [(IntKind.i64.wrap (s.fst + b.getD (↑s.snd.length : Int).toNat 0)).tmod 268435456] = s_1.snd ∧ True) ∧
 (0 ≤ s_1.fst ∧ s_1.fst ≤ 1 ∧ Dgs s_1.snd ∧ s_1.snd.length + s_1.fst.toNat ≤ max a.length b.length + 1 ∧ (s_1.snd.length < max a.length b.length ∨ s_1.fst = 1 ∨ dig (nv s_1.snd) = s_1.snd) ∧ dvI s_1.snd + 268435456 ^ s_1.snd.length * (s_1.fst + dvI (List.drop s_1.snd.length a) + dvI (List.drop s_1.snd.length b)) = dvI a + dvI b) ∧
 a.length - s_1.snd.length + (b.length - s_1.snd.length) + s_1.fst.toNat < a.length - s.snd.length + (b.length - s.snd.length) + s.fst.toNat)
 False)
 False)
 False)
 (s.snd.length = s.snd.length ∧
 bcase (capOk (s.snd.length + 1) 8)
 (∃ (s_1 : Int × List Int),
 (a.length = a.length ∧
 b.length = b.length ∧ Value.tuple #[] = Value.tuple #[] ∧ Value.tuple #[] = Value.tuple #[] ∧ Value.slice none 0 0 = Value.slice none 0 0 ∧ s.snd.length + 1 = s_1.snd.length ∧ s.snd.length + 1 ≠ 0 ∧ IntKind.i64.wrap (s.fst.tdiv 268435456) = s_1.fst ∧ IntKind.i64.wrap ((↑s.snd.length : Int) + 1) = (↑s_1.snd.length : Int) ∧ a = a ∧ b = b ∧ s.snd ++ [s.fst.tmod 268435456] = s_1.snd ∧ True) ∧
 (0 ≤ s_1.fst ∧ s_1.fst ≤ 1 ∧ Dgs s_1.snd ∧ s_1.snd.length + s_1.fst.toNat ≤ max a.length b.length + 1 ∧ (s_1.snd.length < max a.length b.length ∨ s_1.fst = 1 ∨ dig (nv s_1.snd) = s_1.snd) ∧ dvI s_1.snd + 268435456 ^ s_1.snd.length * (s_1.fst + dvI (List.drop s_1.snd.length a) + dvI (List.drop s_1.snd.length b)) = dvI a + dvI b) ∧
 a.length - s_1.snd.length + (b.length - s_1.snd.length) + s_1.fst.toNat < a.length - s.snd.length + (b.length - s.snd.length) + s.fst.toNat)
 False)))
 (s.snd.length = s.snd.length ∧ s.snd = dig (nv a + nv b) ∧ True)))) := by kernel_rfl
theorem vc_less (a b : List Int) : rcallsX Tryd.prog (ΓDg) (ALess a b) 43 [.one (dR a), .one (dR b)] [.one (dR (dig (nv a - nv b)))] = (
 ∃ (s : Int × List Int),
 (a.length = a.length ∧ b.length = b.length ∧ Value.tuple #[] = Value.tuple #[] ∧ Value.tuple #[] = Value.tuple #[] ∧ Value.slice none 0 0 = Value.slice none 0 0 ∧ s.snd.length = 0 ∧ 0 = s.fst ∧ 0 = (↑s.snd.length : Int) ∧ a = a ∧ b = b ∧ s.snd = [] ∧ True) ∧
 (0 ≤ s.fst ∧ s.fst ≤ 1 ∧ Dgs s.snd ∧ s.snd.length ≤ a.length ∧ dvI s.snd + 268435456 ^ s.snd.length * (dvI (List.drop s.snd.length a) - dvI (List.drop s.snd.length b) - s.fst) = dvI a - dvI b) ∧
 ∀ (s : Int × List Int),
 0 ≤ s.fst ∧ s.fst ≤ 1 ∧ Dgs s.snd ∧ s.snd.length ≤ a.length ∧ dvI s.snd + 268435456 ^ s.snd.length * (dvI (List.drop s.snd.length a) - dvI (List.drop s.snd.length b) - s.fst) = dvI a - dvI b →
 bcase (decide ((↑s.snd.length : Int) < (↑a.length : Int)))
 (bcase (inB (↑s.snd.length : Int) a.length)
 (bcase ((↑s.snd.length : Int).toNat.blt a.length)
 (bcase (decide ((↑s.snd.length : Int) < (↑b.length : Int)))
 (bcase (inB (↑s.snd.length : Int) b.length)
 (bcase ((↑s.snd.length : Int).toNat.blt b.length)
 (bcase (decide (IntKind.i64.wrap (IntKind.i64.wrap (a.getD (↑s.snd.length : Int).toNat 0 - s.fst) - b.getD (↑s.snd.length : Int).toNat 0) < 0))
 (s.snd.length = s.snd.length ∧
 bcase (capOk (s.snd.length + 1) 8)
 (∃ (s_1 : Int × List Int),
 (a.length = a.length ∧
 b.length = b.length ∧
 Value.tuple #[] = Value.tuple #[] ∧
 Value.tuple #[] = Value.tuple #[] ∧
 Value.slice none 0 0 = Value.slice none 0 0 ∧ s.snd.length + 1 = s_1.snd.length ∧ s.snd.length + 1 ≠ 0 ∧ 1 = s_1.fst ∧ IntKind.i64.wrap ((↑s.snd.length : Int) + 1) = (↑s_1.snd.length : Int) ∧ a = a ∧ b = b ∧ s.snd ++ [IntKind.i64.wrap (IntKind.i64.wrap (IntKind.i64.wrap (a.getD (↑s.snd.length : Int).toNat 0 - s.fst) - b.getD (↑s.snd.length : Int).toNat 0) + 268435456)] = s_1.snd ∧ True) ∧
 (0 ≤ s_1.fst ∧ s_1.fst ≤ 1 ∧ Dgs s_1.snd ∧ s_1.snd.length ≤ a.length ∧ dvI s_1.snd + 268435456 ^ s_1.snd.length * (dvI (List.drop s_1.snd.length a) - dvI (List.drop s_1.snd.length b) - s_1.fst) = dvI a - dvI b) ∧ a.length - s_1.snd.length < a.length - s.snd.length)
 False)
 (s.snd.length = s.snd.length ∧
 bcase (capOk (s.snd.length + 1) 8)
 (∃ (s_1 : Int × List Int),
 (a.length = a.length ∧
 b.length = b.length ∧
 Value.tuple #[] = Value.tuple #[] ∧
 Value.tuple #[] = Value.tuple #[] ∧ Value.slice none 0 0 = Value.slice none 0 0 ∧ s.snd.length + 1 = s_1.snd.length ∧ s.snd.length + 1 ≠ 0 ∧ 0 = s_1.fst ∧ IntKind.i64.wrap ((↑s.snd.length : Int) + 1) = (↑s_1.snd.length : Int) ∧ a = a ∧ b = b ∧ s.snd ++ [IntKind.i64.wrap (IntKind.i64.wrap (a.getD (↑s.snd.length : Int).toNat 0 - s.fst) - b.getD (↑s.snd.length : Int).toNat 0)] = s_1.snd ∧ True) ∧
 (0 ≤ s_1.fst ∧ s_1.fst ≤ 1 ∧ Dgs s_1.snd ∧ s_1.snd.length ≤ a.length ∧ dvI s_1.snd + 268435456 ^ s_1.snd.length * (dvI (List.drop s_1.snd.length a) - dvI (List.drop s_1.snd.length b) - s_1.fst) = dvI a - dvI b) ∧ a.length - s_1.snd.length < a.length - s.snd.length)
 False))
 False)
 False)
 (bcase (decide (IntKind.i64.wrap (a.getD (↑s.snd.length : Int).toNat 0 - s.fst) < 0))
 (s.snd.length = s.snd.length ∧
 bcase (capOk (s.snd.length + 1) 8)
 (∃ (s_1 : Int × List Int),
 (a.length = a.length ∧
 b.length = b.length ∧
 Value.tuple #[] = Value.tuple #[] ∧
 Value.tuple #[] = Value.tuple #[] ∧ Value.slice none 0 0 = Value.slice none 0 0 ∧ s.snd.length + 1 = s_1.snd.length ∧ s.snd.length + 1 ≠ 0 ∧ 1 = s_1.fst ∧ IntKind.i64.wrap ((↑s.snd.length : Int) + 1) = (↑s_1.snd.length : Int) ∧ a = a ∧ b = b ∧ s.snd ++ [IntKind.i64.wrap (IntKind.i64.wrap (a.getD (↑s.snd.length : Int).toNat 0 - s.fst) + 268435456)] = s_1.snd ∧ True) ∧
 (0 ≤ s_1.fst ∧ s_1.fst ≤ 1 ∧ Dgs s_1.snd ∧ s_1.snd.length ≤ a.length ∧ dvI s_1.snd + 268435456 ^ s_1.snd.length * (dvI (List.drop s_1.snd.length a) - dvI (List.drop s_1.snd.length b) - s_1.fst) = dvI a - dvI b) ∧ a.length - s_1.snd.length < a.length - s.snd.length)
 False)
 (s.snd.length = s.snd.length ∧
 bcase (capOk (s.snd.length + 1) 8)
 (∃ (s_1 : Int × List Int),
 (a.length = a.length ∧
 b.length = b.length ∧ Value.tuple #[] = Value.tuple #[] ∧ Value.tuple #[] = Value.tuple #[] ∧ Value.slice none 0 0 = Value.slice none 0 0 ∧ s.snd.length + 1 = s_1.snd.length ∧ s.snd.length + 1 ≠ 0 ∧ 0 = s_1.fst ∧ IntKind.i64.wrap ((↑s.snd.length : Int) + 1) = (↑s_1.snd.length : Int) ∧ a = a ∧ b = b ∧ s.snd ++ [IntKind.i64.wrap (a.getD (↑s.snd.length : Int).toNat 0 - s.fst)] = s_1.snd ∧ True) ∧
 (0 ≤ s_1.fst ∧ s_1.fst ≤ 1 ∧ Dgs s_1.snd ∧ s_1.snd.length ≤ a.length ∧ dvI s_1.snd + 268435456 ^ s_1.snd.length * (dvI (List.drop s_1.snd.length a) - dvI (List.drop s_1.snd.length b) - s_1.fst) = dvI a - dvI b) ∧ a.length - s_1.snd.length < a.length - s.snd.length)
 False)))
 False)
 False)
 (s.snd.length = s.snd.length ∧ ∀ (z : List Int), z = s.snd → (Dgs z ∧ z.length ≤ 200) ∧ (dig (nv z)).length ≤ (dig (nv z)).length ∧ List.take (dig (nv z)).length (dig (nv z)) = dig (nv a - nv b) ∧ True)) := by kernel_rfl
theorem vc_times (a b : List Int) : rcallsX Tryd.prog (ΓDg) (ATimes a b) 42 [.one (dR a), .one (dR b)] [.one (dR (dig (nv a * nv b)))] = (
 bcase (decide (0 ≤ IntKind.i64.wrap ((↑a.length : Int) + (↑b.length : Int))) && (decide (IntKind.i64.wrap ((↑a.length : Int) + (↑b.length : Int)) ≤ IntKind.i64.wrap ((↑a.length : Int) + (↑b.length : Int))) && capOk (IntKind.i64.wrap ((↑a.length : Int) + (↑b.length : Int))).toNat 8))
 (∃ (s : Nat × List Int),
 (a.length = a.length ∧
 b.length = b.length ∧
 Value.tuple #[] = Value.tuple #[] ∧ Value.tuple #[] = Value.tuple #[] ∧ Value.slice none 0 0 = Value.slice none 0 0 ∧ (IntKind.i64.wrap ((↑a.length : Int) + (↑b.length : Int))).toNat = (IntKind.i64.wrap ((↑a.length : Int) + (↑b.length : Int))).toNat ∧ 0 = (↑s.fst : Int) ∧ a = a ∧ b = b ∧ List.replicate (IntKind.i64.wrap ((↑a.length : Int) + (↑b.length : Int))).toNat 0 = s.snd ∧ True) ∧
 (s.fst ≤ a.length ∧ Dgs s.snd ∧ s.snd.length = a.length + b.length ∧ dvI s.snd + 268435456 ^ s.fst * (dvI (List.drop s.fst a) * dvI b) = dvI a * dvI b ∧ dvI (List.drop (s.fst + b.length) s.snd) = 0) ∧
 ∀ (s : Nat × List Int),
 s.fst ≤ a.length ∧ Dgs s.snd ∧ s.snd.length = a.length + b.length ∧ dvI s.snd + 268435456 ^ s.fst * (dvI (List.drop s.fst a) * dvI b) = dvI a * dvI b ∧ dvI (List.drop (s.fst + b.length) s.snd) = 0 →
 bcase (decide ((↑s.fst : Int) < (↑a.length : Int)))
 (∃ (s_1 : Nat × Int × List Int),
 (a.length = a.length ∧
 b.length = b.length ∧ Value.tuple #[] = Value.tuple #[] ∧ Value.tuple #[] = Value.tuple #[] ∧ Value.slice none 0 0 = Value.slice none 0 0 ∧ (IntKind.i64.wrap ((↑a.length : Int) + (↑b.length : Int))).toNat = (IntKind.i64.wrap ((↑a.length : Int) + (↑b.length : Int))).toNat ∧ (↑s.fst : Int) = (↑s.fst : Int) ∧ 0 = s_1.snd.fst ∧ 0 = (↑s_1.fst : Int) ∧ a = a ∧ b = b ∧ s.snd = s_1.snd.snd ∧ True) ∧
 (s_1.fst ≤ b.length ∧
 0 ≤ s_1.snd.fst ∧
 s_1.snd.fst < 268435456 ∧
 Dgs s_1.snd.snd ∧ s_1.snd.snd.length = a.length + b.length ∧ dvI s_1.snd.snd + 268435456 ^ ((↑s.fst : Int).toNat + s_1.fst) * (s_1.snd.fst + a.getD (↑s.fst : Int).toNat 0 * dvI (List.drop s_1.fst b)) + 268435456 ^ ((↑s.fst : Int).toNat + 1) * (dvI (List.drop ((↑s.fst : Int).toNat + 1) a) * dvI b) = dvI a * dvI b ∧ dvI (List.drop ((↑s.fst : Int).toNat + b.length) s_1.snd.snd) = 0) ∧
 ∀ (s_2 : Nat × Int × List Int),
 s_2.fst ≤ b.length ∧
 0 ≤ s_2.snd.fst ∧
 s_2.snd.fst < 268435456 ∧
 Dgs s_2.snd.snd ∧ s_2.snd.snd.length = a.length + b.length ∧ dvI s_2.snd.snd + 268435456 ^ ((↑s.fst : Int).toNat + s_2.fst) * (s_2.snd.fst + a.getD (↑s.fst : Int).toNat 0 * dvI (List.drop s_2.fst b)) + 268435456 ^ ((↑s.fst : Int).toNat + 1) * (dvI (List.drop ((↑s.fst : Int).toNat + 1) a) * dvI b) = dvI a * dvI b ∧ dvI (List.drop ((↑s.fst : Int).toNat + b.length) s_2.snd.snd) = 0 →
 bcase (decide ((↑s_2.fst : Int) < (↑b.length : Int)))
 (bcase (inB (IntKind.i64.wrap ((↑s.fst : Int) + (↑s_2.fst : Int))) (IntKind.i64.wrap ((↑a.length : Int) + (↑b.length : Int))).toNat)
 (bcase ((IntKind.i64.wrap ((↑s.fst : Int) + (↑s_2.fst : Int))).toNat.blt s_2.snd.snd.length)
 (bcase (inB (↑s.fst : Int) a.length)
 (bcase ((↑s.fst : Int).toNat.blt a.length)
 (bcase (inB (↑s_2.fst : Int) b.length)
 (bcase ((↑s_2.fst : Int).toNat.blt b.length)
 (bcase (inB (IntKind.i64.wrap ((↑s.fst : Int) + (↑s_2.fst : Int))) (IntKind.i64.wrap ((↑a.length : Int) + (↑b.length : Int))).toNat)
 (bcase ((IntKind.i64.wrap ((↑s.fst : Int) + (↑s_2.fst : Int))).toNat.blt s_2.snd.snd.length)
 (∃ (s_3 : Nat × Int × List Int),
 (a.length = a.length ∧
 b.length = b.length ∧
 Value.tuple #[] = Value.tuple #[] ∧
 Value.tuple #[] = Value.tuple #[] ∧
 Value.slice none 0 0 = Value.slice none 0 0 ∧
 (IntKind.i64.wrap ((↑a.length : Int) + (↑b.length : Int))).toNat = (IntKind.i64.wrap ((↑a.length : Int) + (↑b.length : Int))).toNat ∧
 (↑s.fst : Int) = (↑s.fst : Int) ∧
 IntKind.i64.wrap ((IntKind.i64.wrap (IntKind.i64.wrap (s_2.snd.snd.getD (IntKind.i64.wrap ((↑s.fst : Int) + (↑s_2.fst : Int))).toNat 0 + IntKind.i64.wrap (a.getD (↑s.fst : Int).toNat 0 * b.getD (↑s_2.fst : Int).toNat 0)) + s_2.snd.fst)).tdiv 268435456) = s_3.snd.fst ∧
 IntKind.i64.wrap ((↑s_2.fst : Int) + 1) = (↑s_3.fst : Int) ∧
 a = a ∧ b = b ∧ s_2.snd.snd.set (IntKind.i64.wrap ((↑s.fst : Int) + (↑s_2.fst : Int))).toNat ((IntKind.i64.wrap (IntKind.i64.wrap (s_2.snd.snd.getD (IntKind.i64.wrap ((↑s.fst : Int) + (↑s_2.fst : Int))).toNat 0 + IntKind.i64.wrap (a.getD (↑s.fst : Int).toNat 0 * b.getD (↑s_2.fst : Int).toNat 0)) + s_2.snd.fst)).tmod 268435456) = s_3.snd.snd ∧ True) ∧
 (s_3.fst ≤ b.length ∧
 0 ≤ s_3.snd.fst ∧
 s_3.snd.fst < 268435456 ∧
 Dgs s_3.snd.snd ∧ s_3.snd.snd.length = a.length + b.length ∧ dvI s_3.snd.snd + 268435456 ^ ((↑s.fst : Int).toNat + s_3.fst) * (s_3.snd.fst + a.getD (↑s.fst : Int).toNat 0 * dvI (List.drop s_3.fst b)) + 268435456 ^ ((↑s.fst : Int).toNat + 1) * (dvI (List.drop ((↑s.fst : Int).toNat + 1) a) * dvI b) = dvI a * dvI b ∧ dvI (List.drop ((↑s.fst : Int).toNat + b.length) s_3.snd.snd) = 0) ∧
 b.length - s_3.fst < b.length - s_2.fst)
 False)
 False)
 False)
 False)
 False)
 False)
 False)
 False)
 (bcase (inB (IntKind.i64.wrap ((↑s.fst : Int) + (↑b.length : Int))) (IntKind.i64.wrap ((↑a.length : Int) + (↑b.length : Int))).toNat)
 (bcase ((IntKind.i64.wrap ((↑s.fst : Int) + (↑b.length : Int))).toNat.blt s_2.snd.snd.length)
 (∃ (s_3 : Nat × List Int),
 (a.length = a.length ∧
 b.length = b.length ∧
 Value.tuple #[] = Value.tuple #[] ∧
 Value.tuple #[] = Value.tuple #[] ∧ Value.slice none 0 0 = Value.slice none 0 0 ∧ (IntKind.i64.wrap ((↑a.length : Int) + (↑b.length : Int))).toNat = (IntKind.i64.wrap ((↑a.length : Int) + (↑b.length : Int))).toNat ∧ IntKind.i64.wrap ((↑s.fst : Int) + 1) = (↑s_3.fst : Int) ∧ a = a ∧ b = b ∧ s_2.snd.snd.set (IntKind.i64.wrap ((↑s.fst : Int) + (↑b.length : Int))).toNat s_2.snd.fst = s_3.snd ∧ True) ∧
 (s_3.fst ≤ a.length ∧ Dgs s_3.snd ∧ s_3.snd.length = a.length + b.length ∧ dvI s_3.snd + 268435456 ^ s_3.fst * (dvI (List.drop s_3.fst a) * dvI b) = dvI a * dvI b ∧ dvI (List.drop (s_3.fst + b.length) s_3.snd) = 0) ∧ a.length - s_3.fst < a.length - s.fst)
 False)
 False))
 ((IntKind.i64.wrap ((↑a.length : Int) + (↑b.length : Int))).toNat = s.snd.length ∧ ∀ (z : List Int), z = s.snd → (Dgs z ∧ z.length ≤ 200) ∧ (dig (nv z)).length ≤ (dig (nv z)).length ∧ List.take (dig (nv z)).length (dig (nv z)) = dig (nv a * nv b) ∧ True))
 False) := by kernel_rfl
end Go.Proofs.YtmghbedgfnlpoaaDoor
