/- What the reference's division asks. -/
import Derived.Test.YtmghbedgfnlpoaaDoorSpecR
namespace Go.Proofs.YtmghbedgfnlpoaaDoor
open Go Go.Abs Go.RowKit
set_option linter.unusedVariables false
set_option linter.unusedSimpArgs false
theorem vc_over (a b : List Int) : rcallsX Tryd.prog (ΓDo) (AOver a b) 20 [.one (dR a), .one (dR b)] [.one (dR (dig (nv a / nv b))), .one (dR (dig (nv a % nv b)))] = (
 bcase (decide (0 ≤ (↑a.length : Int)) && (decide ((↑a.length : Int) ≤ (↑a.length : Int)) && capOk (↑a.length : Int).toNat 8))
 (∃ (s : Nat × Nat × List Int),
 (a.length = a.length ∧
 b.length = b.length ∧
 Value.tuple #[] = Value.tuple #[] ∧
 Value.tuple #[] = Value.tuple #[] ∧ Value.slice none 0 0 = Value.slice none 0 0 ∧ Value.slice none 0 0 = Value.slice none 0 0 ∧ (dig s.snd.fst).length = 0 ∧ (↑a.length : Int).toNat = (↑a.length : Int).toNat ∧ IntKind.i64.wrap ((↑a.length : Int) - 1) = (↑s.fst : Int) - 1 ∧ a = a ∧ b = b ∧ List.replicate (↑a.length : Int).toNat 0 = s.snd.snd ∧ dig s.snd.fst = [] ∧ True) ∧
 (s.fst ≤ a.length ∧ s.snd.fst < nv b ∧ Dgs s.snd.snd ∧ s.snd.snd.length = a.length ∧ dvI (List.drop s.fst a) = dvI (List.drop s.fst s.snd.snd) * dvI b + (↑s.snd.fst : Int)) ∧
 ∀ (s : Nat × Nat × List Int),
 s.fst ≤ a.length ∧ s.snd.fst < nv b ∧ Dgs s.snd.snd ∧ s.snd.snd.length = a.length ∧ dvI (List.drop s.fst a) = dvI (List.drop s.fst s.snd.snd) * dvI b + (↑s.snd.fst : Int) →
 bcase (decide ((↑s.fst : Int) - 1 ≥ 0))
 (bcase (inB ((↑s.fst : Int) - 1) a.length)
 (bcase (((↑s.fst : Int) - 1).toNat.blt a.length)
 (0 + (dig s.snd.fst).length ≤ (dig s.snd.fst).length ∧
 bcase (capOk ([a.getD ((↑s.fst : Int) - 1).toNat 0].length + (dig s.snd.fst).length) 8)
 ([a.getD ((↑s.fst : Int) - 1).toNat 0].length + (dig s.snd.fst).length = (a.getD ((↑s.fst : Int) - 1).toNat 0 :: List.take (dig s.snd.fst).length (dig s.snd.fst)).length ∧
 ∀ (z : List Int),
 z = a.getD ((↑s.fst : Int) - 1).toNat 0 :: List.take (dig s.snd.fst).length (dig s.snd.fst) →
 (Dgs z ∧ z.length ≤ 200) ∧
 ∃ (s_1 : Int × Int),
 (a.length = a.length ∧
 b.length = b.length ∧
 Value.tuple #[] = Value.tuple #[] ∧
 Value.tuple #[] = Value.tuple #[] ∧
 Value.slice none 0 0 = Value.slice none 0 0 ∧
 Value.slice none 0 0 = Value.slice none 0 0 ∧
 (dig (nv z)).length = (dig (nv z)).length ∧
 (↑a.length : Int).toNat = (↑a.length : Int).toNat ∧
 (↑s.fst : Int) - 1 = (↑s.fst : Int) - 1 ∧ 0 = s_1.fst ∧ 268435455 = s_1.snd ∧ a = a ∧ b = b ∧ s.snd.snd = s.snd.snd ∧ dig s.snd.fst = dig s.snd.fst ∧ a.getD ((↑s.fst : Int) - 1).toNat 0 :: List.take (dig s.snd.fst).length (dig s.snd.fst) = a.getD ((↑s.fst : Int) - 1).toNat 0 :: List.take (dig s.snd.fst).length (dig s.snd.fst) ∧ dig (nv z) = dig (nv z) ∧ True) ∧
 (0 ≤ s_1.fst ∧ s_1.fst ≤ s_1.snd ∧ s_1.snd < 268435456 ∧ s_1.fst * dvI b ≤ dvI (dig (nv z)) ∧ dvI (dig (nv z)) < (s_1.snd + 1) * dvI b) ∧
 ∀ (s_2 : Int × Int),
 0 ≤ s_2.fst ∧ s_2.fst ≤ s_2.snd ∧ s_2.snd < 268435456 ∧ s_2.fst * dvI b ≤ dvI (dig (nv z)) ∧ dvI (dig (nv z)) < (s_2.snd + 1) * dvI b →
 bcase (decide (s_2.fst < s_2.snd))
 (0 + b.length ≤ b.length ∧
 ∀ (z_1 : List Int),
 z_1 = List.take b.length b →
 (YtmghbedgfnlpoaaDoor.Can z_1 ∧ YtmghbedgfnlpoaaDoor.Can [IntKind.i64.wrap ((IntKind.i64.wrap (IntKind.i64.wrap (s_2.fst + s_2.snd) + 1)).tdiv 2)]) ∧
 0 + (dig (nv z_1 * nv [IntKind.i64.wrap ((IntKind.i64.wrap (IntKind.i64.wrap (s_2.fst + s_2.snd) + 1)).tdiv 2)])).length ≤ (dig (nv z_1 * nv [IntKind.i64.wrap ((IntKind.i64.wrap (IntKind.i64.wrap (s_2.fst + s_2.snd) + 1)).tdiv 2)])).length ∧
 ∀ (z_2 : List Int),
 z_2 = List.take (dig (nv z_1 * nv [IntKind.i64.wrap ((IntKind.i64.wrap (IntKind.i64.wrap (s_2.fst + s_2.snd) + 1)).tdiv 2)])).length (dig (nv z_1 * nv [IntKind.i64.wrap ((IntKind.i64.wrap (IntKind.i64.wrap (s_2.fst + s_2.snd) + 1)).tdiv 2)])) →
 0 + (dig (nv z)).length ≤ (dig (nv z)).length ∧
 ∀ (z_3 : List Int),
 z_3 = List.take (dig (nv z)).length (dig (nv z)) →
 (YtmghbedgfnlpoaaDoor.Can z_2 ∧ YtmghbedgfnlpoaaDoor.Can z_3) ∧
 bcase (decide (ordI (↑(nv z_2) : Int) (↑(nv z_3) : Int) ≤ 0))
 (∃ (s_3 : Int × Int),
 (a.length = a.length ∧
 b.length = b.length ∧
 Value.tuple #[] = Value.tuple #[] ∧
 Value.tuple #[] = Value.tuple #[] ∧
 Value.slice none 0 0 = Value.slice none 0 0 ∧
 Value.slice none 0 0 = Value.slice none 0 0 ∧
 (dig (nv z)).length = (dig (nv z)).length ∧
 (↑a.length : Int).toNat = (↑a.length : Int).toNat ∧
 (↑s.fst : Int) - 1 = (↑s.fst : Int) - 1 ∧
 IntKind.i64.wrap ((IntKind.i64.wrap (IntKind.i64.wrap (s_2.fst + s_2.snd) + 1)).tdiv 2) = s_3.fst ∧
 s_2.snd = s_3.snd ∧ a = a ∧ b = b ∧ s.snd.snd = s.snd.snd ∧ dig s.snd.fst = dig s.snd.fst ∧ a.getD ((↑s.fst : Int) - 1).toNat 0 :: List.take (dig s.snd.fst).length (dig s.snd.fst) = a.getD ((↑s.fst : Int) - 1).toNat 0 :: List.take (dig s.snd.fst).length (dig s.snd.fst) ∧ dig (nv z) = dig (nv z) ∧ True) ∧
 (0 ≤ s_3.fst ∧ s_3.fst ≤ s_3.snd ∧ s_3.snd < 268435456 ∧ s_3.fst * dvI b ≤ dvI (dig (nv z)) ∧ dvI (dig (nv z)) < (s_3.snd + 1) * dvI b) ∧ (s_3.snd - s_3.fst).toNat < (s_2.snd - s_2.fst).toNat)
 (∃ (s_3 : Int × Int),
 (a.length = a.length ∧
 b.length = b.length ∧
 Value.tuple #[] = Value.tuple #[] ∧
 Value.tuple #[] = Value.tuple #[] ∧
 Value.slice none 0 0 = Value.slice none 0 0 ∧
 Value.slice none 0 0 = Value.slice none 0 0 ∧
 (dig (nv z)).length = (dig (nv z)).length ∧
 (↑a.length : Int).toNat = (↑a.length : Int).toNat ∧
 (↑s.fst : Int) - 1 = (↑s.fst : Int) - 1 ∧
 s_2.fst = s_3.fst ∧
 IntKind.i64.wrap (IntKind.i64.wrap ((IntKind.i64.wrap (IntKind.i64.wrap (s_2.fst + s_2.snd) + 1)).tdiv 2) - 1) = s_3.snd ∧
 a = a ∧ b = b ∧ s.snd.snd = s.snd.snd ∧ dig s.snd.fst = dig s.snd.fst ∧ a.getD ((↑s.fst : Int) - 1).toNat 0 :: List.take (dig s.snd.fst).length (dig s.snd.fst) = a.getD ((↑s.fst : Int) - 1).toNat 0 :: List.take (dig s.snd.fst).length (dig s.snd.fst) ∧ dig (nv z) = dig (nv z) ∧ True) ∧
 (0 ≤ s_3.fst ∧ s_3.fst ≤ s_3.snd ∧ s_3.snd < 268435456 ∧ s_3.fst * dvI b ≤ dvI (dig (nv z)) ∧ dvI (dig (nv z)) < (s_3.snd + 1) * dvI b) ∧ (s_3.snd - s_3.fst).toNat < (s_2.snd - s_2.fst).toNat))
 (bcase (inB ((↑s.fst : Int) - 1) (↑a.length : Int).toNat)
 (bcase (((↑s.fst : Int) - 1).toNat.blt s.snd.snd.length)
 ((Dgs [s_2.fst] ∧ [s_2.fst].length ≤ 200) ∧
 0 + b.length ≤ b.length ∧
 ∀ (z_1 : List Int),
 z_1 = List.take b.length b →
 0 + (dig (nv [s_2.fst])).length ≤ (dig (nv [s_2.fst])).length ∧
 ∀ (z_2 : List Int),
 z_2 = List.take (dig (nv [s_2.fst])).length (dig (nv [s_2.fst])) →
 (YtmghbedgfnlpoaaDoor.Can z_1 ∧ YtmghbedgfnlpoaaDoor.Can z_2) ∧
 0 + (dig (nv z)).length ≤ (dig (nv z)).length ∧
 ∀ (z_3 : List Int),
 z_3 = List.take (dig (nv z)).length (dig (nv z)) →
 0 + (dig (nv z_1 * nv z_2)).length ≤ (dig (nv z_1 * nv z_2)).length ∧
 ∀ (z : List Int),
 z = List.take (dig (nv z_1 * nv z_2)).length (dig (nv z_1 * nv z_2)) →
 (YtmghbedgfnlpoaaDoor.Can z_3 ∧ YtmghbedgfnlpoaaDoor.Can z ∧ nv z ≤ nv z_3) ∧
 ∃ (s_3 : Nat × Nat × List Int),
 (a.length = a.length ∧
 b.length = b.length ∧
 Value.tuple #[] = Value.tuple #[] ∧
 Value.tuple #[] = Value.tuple #[] ∧
 Value.slice none 0 0 = Value.slice none 0 0 ∧ Value.slice none 0 0 = Value.slice none 0 0 ∧ (dig (nv z_3 - nv z)).length = (dig s_3.snd.fst).length ∧ (↑a.length : Int).toNat = (↑a.length : Int).toNat ∧ IntKind.i64.wrap ((↑s.fst : Int) - 1 - 1) = (↑s_3.fst : Int) - 1 ∧ a = a ∧ b = b ∧ s.snd.snd.set ((↑s.fst : Int) - 1).toNat s_2.fst = s_3.snd.snd ∧ dig (nv z_3 - nv z) = dig s_3.snd.fst ∧ True) ∧
 (s_3.fst ≤ a.length ∧ s_3.snd.fst < nv b ∧ Dgs s_3.snd.snd ∧ s_3.snd.snd.length = a.length ∧ dvI (List.drop s_3.fst a) = dvI (List.drop s_3.fst s_3.snd.snd) * dvI b + (↑s_3.snd.fst : Int)) ∧ s_3.fst < s.fst)
 False)
 False))
 False)
 False)
 False)
 ((↑a.length : Int).toNat = s.snd.snd.length ∧ ∀ (z : List Int), z = s.snd.snd → (Dgs z ∧ z.length ≤ 200) ∧ (dig (nv z)).length ≤ (dig (nv z)).length ∧ List.take (dig (nv z)).length (dig (nv z)) = dig (nv a / nv b) ∧ (dig s.snd.fst).length ≤ (dig s.snd.fst).length ∧ List.take (dig s.snd.fst).length (dig s.snd.fst) = dig (nv a % nv b) ∧ True))
 False) := by kernel_rfl
end Go.Proofs.YtmghbedgfnlpoaaDoor
