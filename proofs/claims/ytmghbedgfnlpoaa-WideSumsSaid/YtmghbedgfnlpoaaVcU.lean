/- What the reference's functions over wide integers ask. -/
import Derived.Test.YtmghbedgfnlpoaaSpecU
namespace Go.Proofs.Ytmghbedgfnlpoaa
open Go Go.Abs Go.RowKit
set_option linter.unusedVariables false
set_option linter.unusedSimpArgs false
theorem vc_minus (l : List Int) (s : Bool) : rcallsX Try.prog (ΓSg) (fun _ => []) 33 [.agg [dR l, .v (.bool s)]] [.agg [.same 0, .v (.bool (!decide ((l.length : Int) = 0) && !s))]] = (
 0 + l.length ≤ l.length ∧ ∀ (z : List Int), z = List.take l.length l → Ytmghbedgfnlpoaa.Can z ∧ l.length = l.length ∧ Value.bool (!decide ((↑z.length : Int) = 0) && !s) = Value.bool (!decide ((↑l.length : Int) = 0) && !s) ∧ True) := by kernel_rfl
theorem vc_compareR (l m : List Int) (s t : Bool) : rcallsX Try.prog (ΓCm) (fun _ => []) 34 [.agg [dR l, .v (.bool s)], .agg [dR m, .v (.bool t)]] [.one (.v (.int .i64 (ordI (numV l s) (numV m t))))] = (
 0 + m.length ≤ m.length ∧
 ∀ (z : List Int),
 z = List.take m.length m →
 Ytmghbedgfnlpoaa.Can z ∧
 0 + l.length ≤ l.length ∧
 ∀ (z_1 : List Int),
 z_1 = List.take l.length l →
 0 + m.length ≤ m.length ∧
 ∀ (z_2 : List Int),
 z_2 = List.take m.length m →
 (CanN z_1 s ∧ CanN z_2 (!decide ((↑z.length : Int) = 0) && !t)) ∧
 bcase ((↑(dig (numV z_1 s + numV z_2 (!decide ((↑z.length : Int) = 0) && !t)).natAbs).length : Int) == 0) (Value.int IntKind.i64 0 = Value.int IntKind.i64 (ordI (numV l s) (numV m t)) ∧ True)
 (bcase (decide (numV z_1 s + numV z_2 (!decide ((↑z.length : Int) = 0) && !t) < 0)) (Value.int IntKind.i64 (-1) = Value.int IntKind.i64 (ordI (numV l s) (numV m t)) ∧ True) (Value.int IntKind.i64 1 = Value.int IntKind.i64 (ordI (numV l s) (numV m t)) ∧ True))) := by kernel_rfl
theorem vc_down (l m : List Int) (s t : Bool) : rcallsX Try.prog (ΓDn) (fun _ => []) 38 [.agg [dR l, .v (.bool s)], .agg [dR m, .v (.bool t)]] [numR ((numV l s).fdiv (numV m t))] = (
 0 + l.length ≤ l.length ∧
 ∀ (z : List Int),
 z = List.take l.length l →
 0 + m.length ≤ m.length ∧
 ∀ (z_1 : List Int),
 z_1 = List.take m.length m →
 (Ytmghbedgfnlpoaa.Can z ∧ Ytmghbedgfnlpoaa.Can z_1 ∧ z_1.length ≤ 40 ∧ nv z_1 ≠ 0) ∧
 bcase (s == t) ((dig (nv z / nv z_1)).length ≤ (dig (nv z / nv z_1)).length ∧ List.take (dig (nv z / nv z_1)).length (dig (nv z / nv z_1)) = dig ((numV l s).fdiv (numV m t)).natAbs ∧ Value.bool false = Value.bool (decide ((numV l s).fdiv (numV m t) < 0)) ∧ True)
 (bcase (decide ((↑(dig (nv z % nv z_1)).length : Int) > 0))
 (0 + (dig (nv z / nv z_1)).length ≤ (dig (nv z / nv z_1)).length ∧
 ∀ (z_2 : List Int),
 z_2 = List.take (dig (nv z / nv z_1)).length (dig (nv z / nv z_1)) →
 (Ytmghbedgfnlpoaa.Can z_2 ∧ Ytmghbedgfnlpoaa.Can [1]) ∧
 0 + (dig (nv z_2 + 1)).length ≤ (dig (nv z_2 + 1)).length ∧
 ∀ (z : List Int), z = List.take (dig (nv z_2 + 1)).length (dig (nv z_2 + 1)) → Ytmghbedgfnlpoaa.Can z ∧ (dig (nv z_2 + 1)).length ≤ (dig (nv z_2 + 1)).length ∧ List.take (dig (nv z_2 + 1)).length (dig (nv z_2 + 1)) = dig ((numV l s).fdiv (numV m t)).natAbs ∧ Value.bool (!decide ((↑z.length : Int) = 0) && true) = Value.bool (decide ((numV l s).fdiv (numV m t) < 0)) ∧ True)
 (0 + (dig (nv z / nv z_1)).length ≤ (dig (nv z / nv z_1)).length ∧
 ∀ (z_2 : List Int),
 z_2 = List.take (dig (nv z / nv z_1)).length (dig (nv z / nv z_1)) → Ytmghbedgfnlpoaa.Can z_2 ∧ (dig (nv z / nv z_1)).length ≤ (dig (nv z / nv z_1)).length ∧ List.take (dig (nv z / nv z_1)).length (dig (nv z / nv z_1)) = dig ((numV l s).fdiv (numV m t)).natAbs ∧ Value.bool (!decide ((↑z_2.length : Int) = 0) && true) = Value.bool (decide ((numV l s).fdiv (numV m t) < 0)) ∧ True))) := by kernel_rfl
theorem vc_up (l m : List Int) (s t : Bool) : rcallsX Try.prog (ΓUp) (fun _ => []) 42 [.agg [dR l, .v (.bool s)], .agg [dR m, .v (.bool t)]] [numR (-((-numV l s).fdiv (numV m t)))] = (
 0 + l.length ≤ l.length ∧
 ∀ (z : List Int),
 z = List.take l.length l →
 Ytmghbedgfnlpoaa.Can z ∧
 0 + l.length ≤ l.length ∧
 ∀ (z_1 : List Int),
 z_1 = List.take l.length l →
 0 + m.length ≤ m.length ∧
 ∀ (z_2 : List Int),
 z_2 = List.take m.length m →
 (CanN z_1 (!decide ((↑z.length : Int) = 0) && !s) ∧ CanN z_2 t ∧ nv z_2 ≠ 0) ∧
 0 + (dig ((numV z_1 (!decide ((↑z.length : Int) = 0) && !s)).fdiv (numV z_2 t)).natAbs).length ≤ (dig ((numV z_1 (!decide ((↑z.length : Int) = 0) && !s)).fdiv (numV z_2 t)).natAbs).length ∧
 ∀ (z_3 : List Int),
 z_3 = List.take (dig ((numV z_1 (!decide ((↑z.length : Int) = 0) && !s)).fdiv (numV z_2 t)).natAbs).length (dig ((numV z_1 (!decide ((↑z.length : Int) = 0) && !s)).fdiv (numV z_2 t)).natAbs) →
 Ytmghbedgfnlpoaa.Can z_3 ∧
 (dig ((numV z_1 (!decide ((↑z.length : Int) = 0) && !s)).fdiv (numV z_2 t)).natAbs).length ≤ (dig ((numV z_1 (!decide ((↑z.length : Int) = 0) && !s)).fdiv (numV z_2 t)).natAbs).length ∧
 List.take (dig ((numV z_1 (!decide ((↑z.length : Int) = 0) && !s)).fdiv (numV z_2 t)).natAbs).length (dig ((numV z_1 (!decide ((↑z.length : Int) = 0) && !s)).fdiv (numV z_2 t)).natAbs) = dig (-(-numV l s).fdiv (numV m t)).natAbs ∧
 Value.bool (!decide ((↑z_3.length : Int) = 0) && !decide ((numV z_1 (!decide ((↑z.length : Int) = 0) && !s)).fdiv (numV z_2 t) < 0)) = Value.bool (decide (-(-numV l s).fdiv (numV m t) < 0)) ∧ True) := by kernel_rfl
theorem vc_isInt (f : Int → List Int) (l : List Int) (s : Bool) : rcallsX Try.prog (ΓIs f) (AIsInt l s) 28 [.agg [dR l, .v (.bool s)]] [oneV (num (gate (I64 (numV l s)) (numV l s))), oneV (.bool (decide (I64 (numV l s))))] = (
 I64 (-9223372036854775808) ∧
 0 + l.length ≤ l.length ∧
 ∀ (z : List Int),
 z = List.take l.length l →
 0 + (f (-9223372036854775808)).length ≤ (f (-9223372036854775808)).length ∧
 ∀ (z_1 : List Int),
 z_1 = List.take (f (-9223372036854775808)).length (f (-9223372036854775808)) →
 (CanN z s ∧ CanN z_1 (decide (-9223372036854775808 < 0))) ∧
 bcase (decide (ordI (numV z s) (numV z_1 (decide (-9223372036854775808 < 0))) < 0)) (Value.int IntKind.i64 0 = Value.int IntKind.i64 (gate (I64 (numV l s)) (numV l s)) ∧ Value.bool false = Value.bool (decide (I64 (numV l s))) ∧ True)
 (I64 9223372036854775807 ∧
 0 + l.length ≤ l.length ∧
 ∀ (z : List Int),
 z = List.take l.length l →
 0 + (f 9223372036854775807).length ≤ (f 9223372036854775807).length ∧
 ∀ (z_2 : List Int),
 z_2 = List.take (f 9223372036854775807).length (f 9223372036854775807) →
 (CanN z s ∧ CanN z_2 (decide (9223372036854775807 < 0))) ∧
 bcase (decide (ordI (numV z s) (numV z_2 (decide (9223372036854775807 < 0))) > 0)) (Value.int IntKind.i64 0 = Value.int IntKind.i64 (gate (I64 (numV l s)) (numV l s)) ∧ Value.bool false = Value.bool (decide (I64 (numV l s))) ∧ True)
 (∃ (s_1 : Nat),
 (0 = sgI s (dvI (List.drop s_1 l)) ∧ IntKind.i64.wrap ((↑l.length : Int) - 1) = (↑s_1 : Int) - 1 ∧ l = l ∧ l.length = l.length ∧ s = s ∧ f (-9223372036854775808) = f (-9223372036854775808) ∧ f 9223372036854775807 = f 9223372036854775807 ∧ True) ∧
 s_1.le l.length ∧
 ∀ (s_2 : Nat),
 s_2.le l.length →
 bcase (decide ((↑s_2 : Int) - 1 ≥ 0))
 (bcase (inB ((↑s_2 : Int) - 1) l.length)
 (bcase (((↑s_2 : Int) - 1).toNat.blt l.length)
 (bcase s
 (∃ (s_3 : Nat),
 (IntKind.i64.wrap (IntKind.i64.wrap (sgI s (dvI (List.drop s_2 l)) * 268435456) + IntKind.i64.wrap (0 - l.getD ((↑s_2 : Int) - 1).toNat 0)) = sgI s (dvI (List.drop s_3 l)) ∧ IntKind.i64.wrap ((↑s_2 : Int) - 1 - 1) = (↑s_3 : Int) - 1 ∧ l = l ∧ l.length = l.length ∧ s = s ∧ f (-9223372036854775808) = f (-9223372036854775808) ∧ f 9223372036854775807 = f 9223372036854775807 ∧ True) ∧
 s_3.le l.length ∧ s_3 < s_2)
 (∃ (s_3 : Nat),
 (IntKind.i64.wrap (IntKind.i64.wrap (sgI s (dvI (List.drop s_2 l)) * 268435456) + l.getD ((↑s_2 : Int) - 1).toNat 0) = sgI s (dvI (List.drop s_3 l)) ∧ IntKind.i64.wrap ((↑s_2 : Int) - 1 - 1) = (↑s_3 : Int) - 1 ∧ l = l ∧ l.length = l.length ∧ s = s ∧ f (-9223372036854775808) = f (-9223372036854775808) ∧ f 9223372036854775807 = f 9223372036854775807 ∧ True) ∧ s_3.le l.length ∧ s_3 < s_2))
 False)
 False)
 (Value.int IntKind.i64 (sgI s (dvI (List.drop s_2 l))) = Value.int IntKind.i64 (gate (I64 (numV l s)) (numV l s)) ∧ Value.bool true = Value.bool (decide (I64 (numV l s))) ∧ True)))) := by kernel_rfl
theorem vc_sqrt (l : List Int) : rcallsX Try.prog (ΓSq) (ASqrt l) 44 [.one (dR l)] [.one (dR (dig (rootI 61 (nv l) 0).toNat))] = (
 0 + l.length ≤ l.length ∧
 bcase (capOk (0 + l.length) 8)
 (0 + l.length = ([] ++ List.take l.length l).length ∧
 bcase (capOk (([] ++ List.take l.length l).length + 1) 8)
 (∃ (s : Nat × Nat),
 (l.length = l.length ∧ (dig s.fst).length = 0 ∧ ([] ++ List.take l.length l).length + 1 = (dig s.snd).length ∧ l = l ∧ Int.ofNat 1 = 1 ∧ dig s.fst = [] ∧ [] ++ List.take l.length l ++ [1] = dig s.snd ∧ True) ∧
 (s.fst < s.snd ∧ s.fst * s.fst ≤ nv l ∧ nv l < s.snd * s.snd ∧ s.snd ≤ nv l + 268435456 ^ l.length) ∧
 ∀ (s : Nat × Nat),
 s.fst < s.snd ∧ s.fst * s.fst ≤ nv l ∧ nv l < s.snd * s.snd ∧ s.snd ≤ nv l + 268435456 ^ l.length →
 0 + (dig s.fst).length ≤ (dig s.fst).length ∧
 ∀ (z : List Int),
 z = List.take (dig s.fst).length (dig s.fst) →
 (Ytmghbedgfnlpoaa.Can z ∧ Ytmghbedgfnlpoaa.Can [1]) ∧
 0 + (dig (nv z + 1)).length ≤ (dig (nv z + 1)).length ∧
 ∀ (z_1 : List Int),
 z_1 = List.take (dig (nv z + 1)).length (dig (nv z + 1)) →
 0 + (dig s.snd).length ≤ (dig s.snd).length ∧
 ∀ (z : List Int),
 z = List.take (dig s.snd).length (dig s.snd) →
 (Ytmghbedgfnlpoaa.Can z_1 ∧ Ytmghbedgfnlpoaa.Can z) ∧
 bcase (decide (ordI (↑(nv z_1) : Int) (↑(nv z) : Int) < 0))
 (0 + (dig s.fst).length ≤ (dig s.fst).length ∧
 ∀ (z : List Int),
 z = List.take (dig s.fst).length (dig s.fst) →
 0 + (dig s.snd).length ≤ (dig s.snd).length ∧
 ∀ (z_2 : List Int),
 z_2 = List.take (dig s.snd).length (dig s.snd) →
 (Ytmghbedgfnlpoaa.Can z ∧ Ytmghbedgfnlpoaa.Can z_2) ∧
 0 + (dig (nv z + nv z_2)).length ≤ (dig (nv z + nv z_2)).length ∧
 ∀ (z_3 : List Int),
 z_3 = List.take (dig (nv z + nv z_2)).length (dig (nv z + nv z_2)) →
 (Ytmghbedgfnlpoaa.Can z_3 ∧ Ytmghbedgfnlpoaa.Can [2] ∧ 1 ≤ 40 ∧ 2 ≠ 0) ∧
 0 + (dig (nv z_3 / 2)).length ≤ (dig (nv z_3 / 2)).length ∧
 ∀ (z : List Int),
 z = List.take (dig (nv z_3 / 2)).length (dig (nv z_3 / 2)) →
 0 + (dig (nv z_3 / 2)).length ≤ (dig (nv z_3 / 2)).length ∧
 ∀ (z_4 : List Int),
 z_4 = List.take (dig (nv z_3 / 2)).length (dig (nv z_3 / 2)) →
 (Ytmghbedgfnlpoaa.Can z ∧ Ytmghbedgfnlpoaa.Can z_4) ∧
 0 + (dig (nv z * nv z_4)).length ≤ (dig (nv z * nv z_4)).length ∧
 ∀ (z_5 : List Int),
 z_5 = List.take (dig (nv z * nv z_4)).length (dig (nv z * nv z_4)) →
 0 + l.length ≤ l.length ∧
 ∀ (z : List Int),
 z = List.take l.length l →
 (Ytmghbedgfnlpoaa.Can z_5 ∧ Ytmghbedgfnlpoaa.Can z) ∧
 bcase (decide (ordI (↑(nv z_5) : Int) (↑(nv z) : Int) ≤ 0))
 (∃ (s_1 : Nat × Nat), (l.length = l.length ∧ (dig (nv z_3 / 2)).length = (dig s_1.fst).length ∧ (dig s.snd).length = (dig s_1.snd).length ∧ l = l ∧ Int.ofNat 1 = 1 ∧ dig (nv z_3 / 2) = dig s_1.fst ∧ dig s.snd = dig s_1.snd ∧ True) ∧ (s_1.fst < s_1.snd ∧ s_1.fst * s_1.fst ≤ nv l ∧ nv l < s_1.snd * s_1.snd ∧ s_1.snd ≤ nv l + 268435456 ^ l.length) ∧ s_1.snd - s_1.fst < s.snd - s.fst)
 (∃ (s_1 : Nat × Nat), (l.length = l.length ∧ (dig s.fst).length = (dig s_1.fst).length ∧ (dig (nv z_3 / 2)).length = (dig s_1.snd).length ∧ l = l ∧ Int.ofNat 1 = 1 ∧ dig s.fst = dig s_1.fst ∧ dig (nv z_3 / 2) = dig s_1.snd ∧ True) ∧ (s_1.fst < s_1.snd ∧ s_1.fst * s_1.fst ≤ nv l ∧ nv l < s_1.snd * s_1.snd ∧ s_1.snd ≤ nv l + 268435456 ^ l.length) ∧ s_1.snd - s_1.fst < s.snd - s.fst))
 ((dig s.fst).length ≤ (dig s.fst).length ∧ List.take (dig s.fst).length (dig s.fst) = dig (rootI 61 (↑(nv l) : Int) 0).toNat ∧ True))
 False)
 False) := by kernel_rfl
theorem vc_ofWide (f : Int → List Int) (h l : Int) : rcallsX Try.prog (ΓOw f) (fun _ => []) 29 [oneV (wid h l)] [numR (val h l)] = (
 I64 h ∧
 I64 1152921504606846976 ∧
 0 + (f h).length ≤ (f h).length ∧
 ∀ (z : List Int),
 z = List.take (f h).length (f h) →
 0 + (f 1152921504606846976).length ≤ (f 1152921504606846976).length ∧
 ∀ (z_1 : List Int),
 z_1 = List.take (f 1152921504606846976).length (f 1152921504606846976) →
 (CanN z (decide (h < 0)) ∧ CanN z_1 (decide (1152921504606846976 < 0)) ∧ PrOk z z_1) ∧
 I64 l ∧
 0 + (dig (numV z (decide (h < 0)) * numV z_1 (decide (1152921504606846976 < 0))).natAbs).length ≤ (dig (numV z (decide (h < 0)) * numV z_1 (decide (1152921504606846976 < 0))).natAbs).length ∧
 ∀ (z_2 : List Int),
 z_2 = List.take (dig (numV z (decide (h < 0)) * numV z_1 (decide (1152921504606846976 < 0))).natAbs).length (dig (numV z (decide (h < 0)) * numV z_1 (decide (1152921504606846976 < 0))).natAbs) →
 0 + (f l).length ≤ (f l).length ∧
 ∀ (z_3 : List Int),
 z_3 = List.take (f l).length (f l) →
 (CanN z_2 (decide (numV z (decide (h < 0)) * numV z_1 (decide (1152921504606846976 < 0)) < 0)) ∧ CanN z_3 (decide (l < 0))) ∧
 (dig (numV z_2 (decide (numV z (decide (h < 0)) * numV z_1 (decide (1152921504606846976 < 0)) < 0)) + numV z_3 (decide (l < 0))).natAbs).length ≤ (dig (numV z_2 (decide (numV z (decide (h < 0)) * numV z_1 (decide (1152921504606846976 < 0)) < 0)) + numV z_3 (decide (l < 0))).natAbs).length ∧
 List.take (dig (numV z_2 (decide (numV z (decide (h < 0)) * numV z_1 (decide (1152921504606846976 < 0)) < 0)) + numV z_3 (decide (l < 0))).natAbs).length (dig (numV z_2 (decide (numV z (decide (h < 0)) * numV z_1 (decide (1152921504606846976 < 0)) < 0)) + numV z_3 (decide (l < 0))).natAbs) = dig (val h l).natAbs ∧
 Value.bool (decide (numV z_2 (decide (numV z (decide (h < 0)) * numV z_1 (decide (1152921504606846976 < 0)) < 0)) + numV z_3 (decide (l < 0)) < 0)) = Value.bool (decide (val h l < 0)) ∧ True) := by kernel_rfl
set_option maxHeartbeats 4000000 in
theorem vc_toWide (f : Int → List Int) (l : List Int) (s : Bool) : rcallsX Try.prog (ΓTw f) (fun _ => []) 14 [.agg [dR l, .v (.bool s)]] [oneV (wid (gate (F120 (numV l s)) (hiO (numV l s))) (gate (F120 (numV l s)) (loO (numV l s)))), oneV (num (pick (F120 (numV l s)) 0 5))] = (
 I64 1152921504606846976 ∧
 0 + l.length ≤ l.length ∧
 ∀ (z : List Int),
 z = List.take l.length l →
 0 + (f 1152921504606846976).length ≤ (f 1152921504606846976).length ∧
 ∀ (z_1 : List Int),
 z_1 = List.take (f 1152921504606846976).length (f 1152921504606846976) →
 (CanN z s ∧ CanN z_1 (decide (1152921504606846976 < 0)) ∧ nv z_1 ≠ 0) ∧
 0 + (dig ((numV z s).fdiv (numV z_1 (decide (1152921504606846976 < 0)))).natAbs).length ≤ (dig ((numV z s).fdiv (numV z_1 (decide (1152921504606846976 < 0)))).natAbs).length ∧
 ∀ (z_2 : List Int),
 z_2 = List.take (dig ((numV z s).fdiv (numV z_1 (decide (1152921504606846976 < 0)))).natAbs).length (dig ((numV z s).fdiv (numV z_1 (decide (1152921504606846976 < 0)))).natAbs) →
 CanN z_2 (decide ((numV z s).fdiv (numV z_1 (decide (1152921504606846976 < 0))) < 0)) ∧
 bcase (!decide (I64 (numV z_2 (decide ((numV z s).fdiv (numV z_1 (decide (1152921504606846976 < 0))) < 0)))))
 (Value.agg #[Value.int IntKind.i64 0, Value.int IntKind.i64 0] = Value.agg #[Value.int IntKind.i64 (gate (F120 (numV l s)) (hiO (numV l s))), Value.int IntKind.i64 (gate (F120 (numV l s)) (loO (numV l s)))] ∧ Value.int IntKind.i64 5 = Value.int IntKind.i64 (pick (F120 (numV l s)) 0 5) ∧ True)
 (bcase (decide (gate (I64 (numV z_2 (decide ((numV z s).fdiv (numV z_1 (decide (1152921504606846976 < 0))) < 0)))) (numV z_2 (decide ((numV z s).fdiv (numV z_1 (decide (1152921504606846976 < 0))) < 0))) < -1152921504606846976))
 (Value.agg #[Value.int IntKind.i64 0, Value.int IntKind.i64 0] = Value.agg #[Value.int IntKind.i64 (gate (F120 (numV l s)) (hiO (numV l s))), Value.int IntKind.i64 (gate (F120 (numV l s)) (loO (numV l s)))] ∧ Value.int IntKind.i64 5 = Value.int IntKind.i64 (pick (F120 (numV l s)) 0 5) ∧ True)
 (bcase (decide (gate (I64 (numV z_2 (decide ((numV z s).fdiv (numV z_1 (decide (1152921504606846976 < 0))) < 0)))) (numV z_2 (decide ((numV z s).fdiv (numV z_1 (decide (1152921504606846976 < 0))) < 0))) ≥ 1152921504606846976))
 (Value.agg #[Value.int IntKind.i64 0, Value.int IntKind.i64 0] = Value.agg #[Value.int IntKind.i64 (gate (F120 (numV l s)) (hiO (numV l s))), Value.int IntKind.i64 (gate (F120 (numV l s)) (loO (numV l s)))] ∧ Value.int IntKind.i64 5 = Value.int IntKind.i64 (pick (F120 (numV l s)) 0 5) ∧ True)
 (I64 1152921504606846976 ∧
 0 + (dig ((numV z s).fdiv (numV z_1 (decide (1152921504606846976 < 0)))).natAbs).length ≤ (dig ((numV z s).fdiv (numV z_1 (decide (1152921504606846976 < 0)))).natAbs).length ∧
 ∀ (z_3 : List Int),
 z_3 = List.take (dig ((numV z s).fdiv (numV z_1 (decide (1152921504606846976 < 0)))).natAbs).length (dig ((numV z s).fdiv (numV z_1 (decide (1152921504606846976 < 0)))).natAbs) →
 0 + (f 1152921504606846976).length ≤ (f 1152921504606846976).length ∧
 ∀ (z_4 : List Int),
 z_4 = List.take (f 1152921504606846976).length (f 1152921504606846976) →
 (CanN z_3 (decide ((numV z s).fdiv (numV z_1 (decide (1152921504606846976 < 0))) < 0)) ∧ CanN z_4 (decide (1152921504606846976 < 0)) ∧ PrOk z_3 z_4) ∧
 0 + (dig (numV z_3 (decide ((numV z s).fdiv (numV z_1 (decide (1152921504606846976 < 0))) < 0)) * numV z_4 (decide (1152921504606846976 < 0))).natAbs).length ≤ (dig (numV z_3 (decide ((numV z s).fdiv (numV z_1 (decide (1152921504606846976 < 0))) < 0)) * numV z_4 (decide (1152921504606846976 < 0))).natAbs).length ∧
 ∀ (z_5 : List Int),
 z_5 = List.take (dig (numV z_3 (decide ((numV z s).fdiv (numV z_1 (decide (1152921504606846976 < 0))) < 0)) * numV z_4 (decide (1152921504606846976 < 0))).natAbs).length (dig (numV z_3 (decide ((numV z s).fdiv (numV z_1 (decide (1152921504606846976 < 0))) < 0)) * numV z_4 (decide (1152921504606846976 < 0))).natAbs) →
 Ytmghbedgfnlpoaa.Can z_5 ∧
 0 + l.length ≤ l.length ∧
 ∀ (z_6 : List Int),
 z_6 = List.take l.length l →
 0 + (dig (numV z_3 (decide ((numV z s).fdiv (numV z_1 (decide (1152921504606846976 < 0))) < 0)) * numV z_4 (decide (1152921504606846976 < 0))).natAbs).length ≤ (dig (numV z_3 (decide ((numV z s).fdiv (numV z_1 (decide (1152921504606846976 < 0))) < 0)) * numV z_4 (decide (1152921504606846976 < 0))).natAbs).length ∧
 ∀ (z_7 : List Int),
 z_7 = List.take (dig (numV z_3 (decide ((numV z s).fdiv (numV z_1 (decide (1152921504606846976 < 0))) < 0)) * numV z_4 (decide (1152921504606846976 < 0))).natAbs).length (dig (numV z_3 (decide ((numV z s).fdiv (numV z_1 (decide (1152921504606846976 < 0))) < 0)) * numV z_4 (decide (1152921504606846976 < 0))).natAbs) →
 (CanN z_6 s ∧ CanN z_7 (!decide ((↑z_5.length : Int) = 0) && !decide (numV z_3 (decide ((numV z s).fdiv (numV z_1 (decide (1152921504606846976 < 0))) < 0)) * numV z_4 (decide (1152921504606846976 < 0)) < 0))) ∧
 0 + (dig (numV z_6 s + numV z_7 (!decide ((↑z_5.length : Int) = 0) && !decide (numV z_3 (decide ((numV z s).fdiv (numV z_1 (decide (1152921504606846976 < 0))) < 0)) * numV z_4 (decide (1152921504606846976 < 0)) < 0))).natAbs).length ≤
 (dig (numV z_6 s + numV z_7 (!decide ((↑z_5.length : Int) = 0) && !decide (numV z_3 (decide ((numV z s).fdiv (numV z_1 (decide (1152921504606846976 < 0))) < 0)) * numV z_4 (decide (1152921504606846976 < 0)) < 0))).natAbs).length ∧
 ∀ (z_8 : List Int),
 z_8 =
 List.take (dig (numV z_6 s + numV z_7 (!decide ((↑z_5.length : Int) = 0) && !decide (numV z_3 (decide ((numV z s).fdiv (numV z_1 (decide (1152921504606846976 < 0))) < 0)) * numV z_4 (decide (1152921504606846976 < 0)) < 0))).natAbs).length
 (dig (numV z_6 s + numV z_7 (!decide ((↑z_5.length : Int) = 0) && !decide (numV z_3 (decide ((numV z s).fdiv (numV z_1 (decide (1152921504606846976 < 0))) < 0)) * numV z_4 (decide (1152921504606846976 < 0)) < 0))).natAbs) →
 CanN z_8 (decide (numV z_6 s + numV z_7 (!decide ((↑z_5.length : Int) = 0) && !decide (numV z_3 (decide ((numV z s).fdiv (numV z_1 (decide (1152921504606846976 < 0))) < 0)) * numV z_4 (decide (1152921504606846976 < 0)) < 0)) < 0)) ∧
 Value.agg
 #[Value.int IntKind.i64 (gate (I64 (numV z_2 (decide ((numV z s).fdiv (numV z_1 (decide (1152921504606846976 < 0))) < 0)))) (numV z_2 (decide ((numV z s).fdiv (numV z_1 (decide (1152921504606846976 < 0))) < 0)))),
 Value.int IntKind.i64
 (gate (I64 (numV z_8 (decide (numV z_6 s + numV z_7 (!decide ((↑z_5.length : Int) = 0) && !decide (numV z_3 (decide ((numV z s).fdiv (numV z_1 (decide (1152921504606846976 < 0))) < 0)) * numV z_4 (decide (1152921504606846976 < 0)) < 0)) < 0))))
 (numV z_8 (decide (numV z_6 s + numV z_7 (!decide ((↑z_5.length : Int) = 0) && !decide (numV z_3 (decide ((numV z s).fdiv (numV z_1 (decide (1152921504606846976 < 0))) < 0)) * numV z_4 (decide (1152921504606846976 < 0)) < 0)) < 0))))] =
 Value.agg #[Value.int IntKind.i64 (gate (F120 (numV l s)) (hiO (numV l s))), Value.int IntKind.i64 (gate (F120 (numV l s)) (loO (numV l s)))] ∧
 Value.int IntKind.i64 0 = Value.int IntKind.i64 (pick (F120 (numV l s)) 0 5) ∧ True)))) := by kernel_rfl
theorem vc_quotR (f : Int → List Int) (h l b : Int) (up : Bool) : rcallsX Try.prog (ΓQr f) (fun _ => []) 20 [oneV (wid h l), oneV (num b), oneV (.bool up)] [oneV (num (gate (okQR (val h l) b up) (quoI (val h l) b up))), oneV (num (pick (b = 0) 16 (pick (I64 (quoI (val h l) b up)) 0 5)))] = (
 bcase (b == 0) (Value.int IntKind.i64 0 = Value.int IntKind.i64 (gate (okQR (val h l) b up) (quoI (val h l) b up)) ∧ Value.int IntKind.i64 16 = Value.int IntKind.i64 (pick (b = 0) 16 (pick (I64 (quoI (val h l) b up)) 0 5)) ∧ True)
 ((I64 h ∧ I64 l) ∧
 I64 b ∧
 0 + (dig (val h l).natAbs).length ≤ (dig (val h l).natAbs).length ∧
 ∀ (z : List Int),
 z = List.take (dig (val h l).natAbs).length (dig (val h l).natAbs) →
 0 + (f b).length ≤ (f b).length ∧
 ∀ (z_1 : List Int),
 z_1 = List.take (f b).length (f b) →
 (CanN z (decide (val h l < 0)) ∧ CanN z_1 (decide (b < 0)) ∧ nv z_1 ≠ 0) ∧
 bcase up
 ((I64 h ∧ I64 l) ∧
 I64 b ∧
 0 + (dig (val h l).natAbs).length ≤ (dig (val h l).natAbs).length ∧
 ∀ (z : List Int),
 z = List.take (dig (val h l).natAbs).length (dig (val h l).natAbs) →
 0 + (f b).length ≤ (f b).length ∧
 ∀ (z_2 : List Int),
 z_2 = List.take (f b).length (f b) →
 (CanN z (decide (val h l < 0)) ∧ CanN z_2 (decide (b < 0)) ∧ nv z_2 ≠ 0) ∧
 0 + (dig (-(-numV z (decide (val h l < 0))).fdiv (numV z_2 (decide (b < 0)))).natAbs).length ≤ (dig (-(-numV z (decide (val h l < 0))).fdiv (numV z_2 (decide (b < 0)))).natAbs).length ∧
 ∀ (z_3 : List Int),
 z_3 = List.take (dig (-(-numV z (decide (val h l < 0))).fdiv (numV z_2 (decide (b < 0)))).natAbs).length (dig (-(-numV z (decide (val h l < 0))).fdiv (numV z_2 (decide (b < 0)))).natAbs) →
 CanN z_3 (decide (-(-numV z (decide (val h l < 0))).fdiv (numV z_2 (decide (b < 0))) < 0)) ∧
 bcase (!decide (I64 (numV z_3 (decide (-(-numV z (decide (val h l < 0))).fdiv (numV z_2 (decide (b < 0))) < 0))))) (Value.int IntKind.i64 0 = Value.int IntKind.i64 (gate (okQR (val h l) b up) (quoI (val h l) b up)) ∧ Value.int IntKind.i64 5 = Value.int IntKind.i64 (pick (b = 0) 16 (pick (I64 (quoI (val h l) b up)) 0 5)) ∧ True)
 (Value.int IntKind.i64 (gate (I64 (numV z_3 (decide (-(-numV z (decide (val h l < 0))).fdiv (numV z_2 (decide (b < 0))) < 0)))) (numV z_3 (decide (-(-numV z (decide (val h l < 0))).fdiv (numV z_2 (decide (b < 0))) < 0)))) = Value.int IntKind.i64 (gate (okQR (val h l) b up) (quoI (val h l) b up)) ∧
 Value.int IntKind.i64 0 = Value.int IntKind.i64 (pick (b = 0) 16 (pick (I64 (quoI (val h l) b up)) 0 5)) ∧ True))
 (0 + (dig ((numV z (decide (val h l < 0))).fdiv (numV z_1 (decide (b < 0)))).natAbs).length ≤ (dig ((numV z (decide (val h l < 0))).fdiv (numV z_1 (decide (b < 0)))).natAbs).length ∧
 ∀ (z_2 : List Int),
 z_2 = List.take (dig ((numV z (decide (val h l < 0))).fdiv (numV z_1 (decide (b < 0)))).natAbs).length (dig ((numV z (decide (val h l < 0))).fdiv (numV z_1 (decide (b < 0)))).natAbs) →
 CanN z_2 (decide ((numV z (decide (val h l < 0))).fdiv (numV z_1 (decide (b < 0))) < 0)) ∧
 bcase (!decide (I64 (numV z_2 (decide ((numV z (decide (val h l < 0))).fdiv (numV z_1 (decide (b < 0))) < 0))))) (Value.int IntKind.i64 0 = Value.int IntKind.i64 (gate (okQR (val h l) b up) (quoI (val h l) b up)) ∧ Value.int IntKind.i64 5 = Value.int IntKind.i64 (pick (b = 0) 16 (pick (I64 (quoI (val h l) b up)) 0 5)) ∧ True)
 (Value.int IntKind.i64 (gate (I64 (numV z_2 (decide ((numV z (decide (val h l < 0))).fdiv (numV z_1 (decide (b < 0))) < 0)))) (numV z_2 (decide ((numV z (decide (val h l < 0))).fdiv (numV z_1 (decide (b < 0))) < 0)))) = Value.int IntKind.i64 (gate (okQR (val h l) b up) (quoI (val h l) b up)) ∧
 Value.int IntKind.i64 0 = Value.int IntKind.i64 (pick (b = 0) 16 (pick (I64 (quoI (val h l) b up)) 0 5)) ∧ True)))) := by kernel_rfl
theorem vc_rootR (f : Int → List Int) (h l : Int) : rcallsX Try.prog (ΓQr f) (fun _ => []) 22 [oneV (wid h l)] [oneV (num (gate (0 ≤ h) (rootI 61 (val h l) 0))), oneV (num (pick (0 ≤ h) 0 2))] = (
 (I64 h ∧ I64 l) ∧
 bcase (decide (val h l < 0)) (Value.int IntKind.i64 0 = Value.int IntKind.i64 (gate (0 ≤ h) (rootI 61 (val h l) 0)) ∧ Value.int IntKind.i64 2 = Value.int IntKind.i64 (pick (0 ≤ h) 0 2) ∧ True)
 (0 + (dig (val h l).natAbs).length ≤ (dig (val h l).natAbs).length ∧
 ∀ (z : List Int),
 z = List.take (dig (val h l).natAbs).length (dig (val h l).natAbs) →
 (Ytmghbedgfnlpoaa.Can z ∧ nv z < 1329227995784915872903807060280344576) ∧
 0 + (dig (rootI 61 (↑(nv z) : Int) 0).toNat).length ≤ (dig (rootI 61 (↑(nv z) : Int) 0).toNat).length ∧
 ∀ (z_1 : List Int), z_1 = List.take (dig (rootI 61 (↑(nv z) : Int) 0).toNat).length (dig (rootI 61 (↑(nv z) : Int) 0).toNat) → CanN z_1 false ∧ Value.int IntKind.i64 (gate (I64 (numV z_1 false)) (numV z_1 false)) = Value.int IntKind.i64 (gate (0 ≤ h) (rootI 61 (val h l) 0)) ∧ Value.int IntKind.i64 0 = Value.int IntKind.i64 (pick (0 ≤ h) 0 2) ∧ True)) := by kernel_rfl
theorem vc_validR (h l : Int) (K : Value → Prop) : callsX Try.prog ([]) (noAnn) 19 [wid h l] K = (
 bcase (decide (h ≥ -1152921504606846976)) (bcase (decide (h < 1152921504606846976)) (bcase (decide (l ≥ 0)) (K (Value.bool (decide (l < 1152921504606846976)))) (K (Value.bool false))) (K (Value.bool false))) (K (Value.bool false))) := by kernel_rfl
end Go.Proofs.Ytmghbedgfnlpoaa
