/- Refraction: the factor in lowest terms. The plain law. -/
import Derived.Test.YtidhogcijghogaaGreatDoorRfrS
namespace Go.Proofs.YtidhogcijghogaaGreatDoor
open Go Go.Abs Go.RowKit
set_option linter.unusedVariables false
set_option linter.unusedSimpArgs false
theorem gcd_parts {a b : Int} (ha : 1 ≤ a) (hb : 1 ≤ b) : 1 ≤ ((a.toNat.gcd b.toNat : Nat) : Int) ∧ a / (a.toNat.gcd b.toNat : Nat) * (a.toNat.gcd b.toNat : Nat) = a ∧ b / (a.toNat.gcd b.toNat : Nat) * (a.toNat.gcd b.toNat : Nat) = b ∧ 1 ≤ a / (a.toNat.gcd b.toNat : Nat) ∧ a / (a.toNat.gcd b.toNat : Nat) ≤ a ∧ 1 ≤ b / (a.toNat.gcd b.toNat : Nat) ∧ b / (a.toNat.gcd b.toNat : Nat) ≤ b := by
  have g0 : 0 < a.toNat.gcd b.toNat := Nat.gcd_pos_of_pos_left _ (by omega)
  have d1 : ((a.toNat.gcd b.toNat : Nat) : Int) ∣ a := by
    have := Int.natCast_dvd_natCast.mpr (Nat.gcd_dvd_left a.toNat b.toNat)
    rw [show ((a.toNat : Nat) : Int) = a by omega] at this
    exact this
  have d2 : ((a.toNat.gcd b.toNat : Nat) : Int) ∣ b := by
    have := Int.natCast_dvd_natCast.mpr (Nat.gcd_dvd_right a.toNat b.toNat)
    rw [show ((b.toNat : Nat) : Int) = b by omega] at this
    exact this
  have e1 := Int.ediv_mul_cancel d1
  have e2 := Int.ediv_mul_cancel d2
  generalize a.toNat.gcd b.toNat = g at *
  have g1 : (1 : Int) ≤ (g : Int) := by omega
  have p1 : 1 ≤ a / (g : Int) := by
    apply Int.not_lt.mp
    intro q
    have := Int.mul_le_mul_of_nonneg_right (show a / (g : Int) ≤ 0 by omega) (show 0 ≤ (g : Int) by omega)
    omega
  have p2 : 1 ≤ b / (g : Int) := by
    apply Int.not_lt.mp
    intro q
    have := Int.mul_le_mul_of_nonneg_right (show b / (g : Int) ≤ 0 by omega) (show 0 ≤ (g : Int) by omega)
    omega
  have q1 := Int.mul_le_mul_of_nonneg_left g1 (show 0 ≤ a / (g : Int) by omega)
  have q2 := Int.mul_le_mul_of_nonneg_left g1 (show 0 ≤ b / (g : Int) by omega)
  exact ⟨g1, e1, e2, p1, by omega, p2, by omega⟩
theorem fac_parts {t p : Int} (hw : Wth t p) : 1 ≤ gF t p ∧ fN t p * gF t p = numF p ∧ fD t p * gF t p = denF t ∧ 1 ≤ fN t p ∧ fN t p ≤ 3113000 ∧ 1 ≤ fD t p ∧ fD t p ≤ 3363300 := by
  obtain ⟨a, b, c, d⟩ := fac_range hw
  obtain ⟨g, x, y, x1, x2, y1, y2⟩ := gcd_parts (a := numF p) (b := denF t) (by omega) (by omega)
  exact ⟨g, x, y, x1, Int.le_trans x2 b, y1, Int.le_trans y2 d⟩
theorem fac_cross {t p t2 p2 : Int} (hw : Wth t p) (hw2 : Wth t2 p2) (h : numF p * denF t2 ≤ numF p2 * denF t) : fN t p * fD t2 p2 ≤ fN t2 p2 * fD t p := by
  obtain ⟨g, x, y, _⟩ := fac_parts hw
  obtain ⟨g', x', y', _⟩ := fac_parts hw2
  have gg := Int.mul_pos (show 0 < gF t p by omega) (show 0 < gF t2 p2 by omega)
  apply Int.le_of_mul_le_mul_right _ gg
  have e1 : fN t p * fD t2 p2 * (gF t p * gF t2 p2) = (fN t p * gF t p) * (fD t2 p2 * gF t2 p2) := by grind
  have e2 : fN t2 p2 * fD t p * (gF t p * gF t2 p2) = (fN t2 p2 * gF t2 p2) * (fD t p * gF t p) := by grind
  rw [e1, e2, x, y, x', y']
  exact h
/-- The same quotients by the factor in lowest terms. -/
theorem fac_div {t p : Int} (hw : Wth t p) (x : Int) : x * fN t p / fD t p = x * numF p / denF t := by
  obtain ⟨g, a, b, _, _, c, _⟩ := fac_parts hw
  rw [← a, ← b, ← Int.mul_assoc]
  exact (Int.mul_ediv_mul_of_pos_left _ _ (by omega)).symm
theorem fac_ceil {t p : Int} (hw : Wth t p) (x : Int) : -(-(x * fN t p) / fD t p) = -(-(x * numF p) / denF t) := by
  have := fac_div hw (-x)
  rw [Int.neg_mul, Int.neg_mul] at this
  rw [this]
end Go.Proofs.YtidhogcijghogaaGreatDoor
