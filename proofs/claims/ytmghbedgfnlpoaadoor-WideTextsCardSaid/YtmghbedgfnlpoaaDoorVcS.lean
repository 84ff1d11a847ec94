/- What the reference's functions of signed numbers ask. -/
import Derived.Test.YtmghbedgfnlpoaaDoorSpecS
namespace Go.Proofs.YtmghbedgfnlpoaaDoor
open Go Go.Abs Go.RowKit
set_option linter.unusedVariables false
set_option linter.unusedSimpArgs false
theorem vc_sign (l : List Int) (s : Bool) : rcallsX Tryd.prog ([]) (fun _ => []) 58 [.agg [dR l, .v (.bool s)]] [.agg [.same 0, .v (.bool (!decide ((l.length : Int) = 0) && s))]] = (
 bcase ((↑l.length : Int) == 0) (l.length = l.length ∧ Value.bool false = Value.bool (!decide ((↑l.length : Int) = 0) && s) ∧ True) (l.length = l.length ∧ Value.bool s = Value.bool (!decide ((↑l.length : Int) = 0) && s) ∧ True)) := by kernel_rfl
theorem vc_plus (l m : List Int) (s t : Bool) : rcallsX Tryd.prog (ΓPl) (fun _ => []) 37 [.agg [dR l, .v (.bool s)], .agg [dR m, .v (.bool t)]] [numR (numV l s + numV m t)] = (
 bcase (s == t)
 (0 + l.length ≤ l.length ∧
 ∀ (z : List Int),
 z = List.take l.length l → 0 + m.length ≤ m.length ∧ ∀ (z_1 : List Int), z_1 = List.take m.length m → (YtmghbedgfnlpoaaDoor.Can z ∧ YtmghbedgfnlpoaaDoor.Can z_1) ∧ (dig (nv z + nv z_1)).length ≤ (dig (nv z + nv z_1)).length ∧ List.take (dig (nv z + nv z_1)).length (dig (nv z + nv z_1)) = dig (numV l s + numV m t).natAbs ∧ Value.bool s = Value.bool (decide (numV l s + numV m t < 0)) ∧ True)
 (0 + l.length ≤ l.length ∧
 ∀ (z : List Int),
 z = List.take l.length l →
 0 + m.length ≤ m.length ∧
 ∀ (z_1 : List Int),
 z_1 = List.take m.length m →
 (YtmghbedgfnlpoaaDoor.Can z ∧ YtmghbedgfnlpoaaDoor.Can z_1) ∧
 bcase (decide (ordI (↑(nv z) : Int) (↑(nv z_1) : Int) ≥ 0))
 (0 + l.length ≤ l.length ∧
 ∀ (z : List Int),
 z = List.take l.length l →
 0 + m.length ≤ m.length ∧
 ∀ (z_2 : List Int),
 z_2 = List.take m.length m →
 (YtmghbedgfnlpoaaDoor.Can z ∧ YtmghbedgfnlpoaaDoor.Can z_2 ∧ nv z_2 ≤ nv z) ∧
 0 + (dig (nv z - nv z_2)).length ≤ (dig (nv z - nv z_2)).length ∧
 ∀ (z_3 : List Int), z_3 = List.take (dig (nv z - nv z_2)).length (dig (nv z - nv z_2)) → YtmghbedgfnlpoaaDoor.Can z_3 ∧ (dig (nv z - nv z_2)).length ≤ (dig (nv z - nv z_2)).length ∧ List.take (dig (nv z - nv z_2)).length (dig (nv z - nv z_2)) = dig (numV l s + numV m t).natAbs ∧ Value.bool (!decide ((↑z_3.length : Int) = 0) && s) = Value.bool (decide (numV l s + numV m t < 0)) ∧ True)
 (0 + m.length ≤ m.length ∧
 ∀ (z : List Int),
 z = List.take m.length m →
 0 + l.length ≤ l.length ∧
 ∀ (z_2 : List Int),
 z_2 = List.take l.length l →
 (YtmghbedgfnlpoaaDoor.Can z ∧ YtmghbedgfnlpoaaDoor.Can z_2 ∧ nv z_2 ≤ nv z) ∧
 0 + (dig (nv z - nv z_2)).length ≤ (dig (nv z - nv z_2)).length ∧
 ∀ (z_3 : List Int), z_3 = List.take (dig (nv z - nv z_2)).length (dig (nv z - nv z_2)) → YtmghbedgfnlpoaaDoor.Can z_3 ∧ (dig (nv z - nv z_2)).length ≤ (dig (nv z - nv z_2)).length ∧ List.take (dig (nv z - nv z_2)).length (dig (nv z - nv z_2)) = dig (numV l s + numV m t).natAbs ∧ Value.bool (!decide ((↑z_3.length : Int) = 0) && t) = Value.bool (decide (numV l s + numV m t < 0)) ∧ True))) := by kernel_rfl
theorem vc_mul (l m : List Int) (s t : Bool) : rcallsX Tryd.prog (ΓPl) (fun _ => []) 38 [.agg [dR l, .v (.bool s)], .agg [dR m, .v (.bool t)]] [numR (numV l s * numV m t)] = (
 0 + l.length ≤ l.length ∧
 ∀ (z : List Int),
 z = List.take l.length l →
 0 + m.length ≤ m.length ∧
 ∀ (z_1 : List Int),
 z_1 = List.take m.length m →
 (YtmghbedgfnlpoaaDoor.Can z ∧ YtmghbedgfnlpoaaDoor.Can z_1) ∧
 0 + (dig (nv z * nv z_1)).length ≤ (dig (nv z * nv z_1)).length ∧
 ∀ (z_2 : List Int), z_2 = List.take (dig (nv z * nv z_1)).length (dig (nv z * nv z_1)) → YtmghbedgfnlpoaaDoor.Can z_2 ∧ (dig (nv z * nv z_1)).length ≤ (dig (nv z * nv z_1)).length ∧ List.take (dig (nv z * nv z_1)).length (dig (nv z * nv z_1)) = dig (numV l s * numV m t).natAbs ∧ Value.bool (!decide ((↑z_2.length : Int) = 0) && !s == t) = Value.bool (decide (numV l s * numV m t < 0)) ∧ True) := by kernel_rfl
end Go.Proofs.YtmghbedgfnlpoaaDoor
