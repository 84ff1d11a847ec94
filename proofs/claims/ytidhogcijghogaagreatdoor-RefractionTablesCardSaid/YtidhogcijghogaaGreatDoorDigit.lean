/- The plain law of a division by digits. No program is in sight here. -/
import Derived.Test.YtidhogcijghogaaGreatDoorSpecW
namespace Go.Proofs.YtidhogcijghogaaGreatDoor
open Go Go.Abs Go.RowKit
set_option linter.unusedVariables false
/-- What a digit is asked of. -/
structure DigIn (yn1 yn0 un u1 : Int) : Prop where
  a0 : 2147483648 ≤ yn1
  a1 : yn1 < 4294967296
  b0 : 0 ≤ yn0
  b1 : yn0 < 4294967296
  c0 : 0 ≤ un
  c1 : un < yn1 * 4294967296 + yn0
  d0 : 0 ≤ u1
  d1 : u1 < 4294967296
theorem Dig.start {yn1 yn0 un u1 : Int} (h : DigIn yn1 yn0 un u1) : Dig yn1 yn0 un u1 (un / yn1) (un - un / yn1 * yn1) := by
  obtain ⟨a0, a1, b0, b1, c0, c1, d0, d1⟩ := h
  have e1 := Int.emod_nonneg un (show yn1 ≠ 0 by omega)
  have e2 := Int.emod_lt_of_pos un (show 0 < yn1 by omega)
  have e3 := Int.mul_ediv_add_emod un yn1
  have hq : 0 ≤ un / yn1 := Int.ediv_nonneg c0 (by omega)
  generalize un / yn1 = q at *
  generalize un % yn1 = r at *
  have hr : un - q * yn1 = r := by grind
  rw [hr]
  have hq1 : q ≤ 4294967297 := by
    rcases Int.lt_or_le q 4294967298 with h | h
    · omega
    · have := Int.mul_le_mul_of_nonneg_left h (show 0 ≤ yn1 by omega)
      omega
  refine ⟨by grind, e1, by omega, hq, hq1, ?_⟩
  have hu : un + 1 ≤ (q + 1) * yn1 := by grind
  have h1 := Int.mul_le_mul_of_nonneg_right hu (show (0 : Int) ≤ 4294967296 by decide)
  have h2 : 0 ≤ (q + 1) * yn0 := Int.mul_nonneg (by omega) b0
  grind
/-- The digit may be too great: take one less. -/
theorem Dig.less {yn1 yn0 un u1 q r : Int} (h : DigIn yn1 yn0 un u1) (d : Dig yn1 yn0 un u1 q r) (hc : q ≥ 4294967296 ∨ q * yn0 > 4294967296 * r + u1) :
    (q - 1) * yn1 + (r + yn1) = un ∧ 0 ≤ q - 1 ∧ q - 1 ≤ 4294967296 ∧ un * 4294967296 + u1 < (q - 1 + 1) * (yn1 * 4294967296 + yn0) := by
  obtain ⟨a0, a1, b0, b1, c0, c1, d0, d1⟩ := h
  obtain ⟨s, r0, r1, q0, q1, l⟩ := d
  have hk : un * 4294967296 + u1 < q * (yn1 * 4294967296 + yn0) := by
    rcases hc with hc | hc
    · have h1 := Int.mul_le_mul_of_nonneg_right hc (show 0 ≤ yn1 * 4294967296 + yn0 by omega)
      grind
    · grind
  refine ⟨by grind, ?_, by omega, by rw [show q - 1 + 1 = q by omega]; exact hk⟩
  rcases Int.lt_or_le 0 q with h | h
  · omega
  · have : q = 0 := by omega
    subst this
    omega
theorem digit_eq {yn1 yn0 un u1 q r : Int} (h : DigIn yn1 yn0 un u1) (sum : q * yn1 + r = un) (least : un * 4294967296 + u1 < (q + 1) * (yn1 * 4294967296 + yn0)) (hq : q * yn0 ≤ 4294967296 * r + u1) :
    (un * 4294967296 + u1) / (yn1 * 4294967296 + yn0) = q := by
  obtain ⟨a0, a1, b0, b1, c0, c1, d0, d1⟩ := h
  have hy : 0 < yn1 * 4294967296 + yn0 := by omega
  have h1 : q * (yn1 * 4294967296 + yn0) ≤ un * 4294967296 + u1 := by grind
  generalize yn1 * 4294967296 + yn0 = y at *
  generalize un * 4294967296 + u1 = n at *
  apply Int.le_antisymm
  · have := Int.ediv_lt_of_lt_mul hy least
    omega
  · exact (Int.le_ediv_iff_mul_le hy).2 h1
/-- The loop ends: the digit is right. -/
theorem Dig.done {yn1 yn0 un u1 q r : Int} (h : DigIn yn1 yn0 un u1) (d : Dig yn1 yn0 un u1 q r) (hq : q * yn0 ≤ 4294967296 * r + u1) :
    (un * 4294967296 + u1) / (yn1 * 4294967296 + yn0) = q := digit_eq h d.sum d.least hq
theorem Dig.stop {yn1 yn0 un u1 q r : Int} (h : DigIn yn1 yn0 un u1) (d : Dig yn1 yn0 un u1 q r) (hc : q ≥ 4294967296 ∨ q * yn0 > 4294967296 * r + u1) (hr : r + yn1 ≥ 4294967296) :
    (un * 4294967296 + u1) / (yn1 * 4294967296 + yn0) = q - 1 := by
  obtain ⟨s, k0, k1, l⟩ := d.less h hc
  refine digit_eq h s l ?_
  obtain ⟨a0, a1, b0, b1, c0, c1, d0, d1⟩ := h
  have h1 := Int.mul_le_mul k1 (show yn0 ≤ 4294967295 by omega) b0 (by decide)
  have h2 := Int.mul_le_mul_of_nonneg_left hr (show (0 : Int) ≤ 4294967296 by decide)
  omega
theorem Dig.next {yn1 yn0 un u1 q r : Int} (h : DigIn yn1 yn0 un u1) (d : Dig yn1 yn0 un u1 q r) (hc : q ≥ 4294967296 ∨ q * yn0 > 4294967296 * r + u1) (hr : r + yn1 < 4294967296) :
    Dig yn1 yn0 un u1 (q - 1) (r + yn1) := by
  obtain ⟨s, k0, k1, l⟩ := d.less h hc
  obtain ⟨a0, a1, b0, b1, c0, c1, d0, d1⟩ := h
  obtain ⟨s', r0, r1, q0, q1, l'⟩ := d
  exact ⟨s, by omega, hr, k0, by omega, l⟩
theorem norm_div {V y p : Int} (hp : 0 < p) : V * p / (y * p) = V / y := Int.mul_ediv_mul_of_pos_left _ _ hp
theorem norm_mod {V y p : Int} (hp : 0 < p) : V * p % (y * p) / p = V % y := by
  have h1 := Int.emod_def (V * p) (y * p)
  rw [norm_div hp] at h1
  have h2 := Int.emod_def V y
  have : V * p % (y * p) = V % y * p := by rw [h1, h2]; grind
  rw [this, Int.mul_ediv_cancel _ (by omega)]
theorem two_digits {Y un u1 u0 q1 q0 : Int} (hY : 0 < Y) (h1 : q1 = (un * 4294967296 + u1) / Y) (h0 : q0 = ((un * 4294967296 + u1 - q1 * Y) * 4294967296 + u0) / Y) :
    (un * 18446744073709551616 + u1 * 4294967296 + u0) / Y = q1 * 4294967296 + q0 ∧
    (un * 18446744073709551616 + u1 * 4294967296 + u0) % Y = (un * 4294967296 + u1 - q1 * Y) * 4294967296 + u0 - q0 * Y := by
  have e0 := Int.emod_def ((un * 4294967296 + u1 - q1 * Y) * 4294967296 + u0) Y
  rw [← h0] at e0
  have b0 := Int.emod_nonneg ((un * 4294967296 + u1 - q1 * Y) * 4294967296 + u0) (show Y ≠ 0 by omega)
  have b1 := Int.emod_lt_of_pos ((un * 4294967296 + u1 - q1 * Y) * 4294967296 + u0) hY
  rw [e0] at b0 b1
  have hd : (un * 18446744073709551616 + u1 * 4294967296 + u0) / Y = q1 * 4294967296 + q0 := by
    have e : un * 18446744073709551616 + u1 * 4294967296 + u0 = ((un * 4294967296 + u1 - q1 * Y) * 4294967296 + u0 - Y * q0) + (q1 * 4294967296 + q0) * Y := by grind
    rw [e, Int.add_mul_ediv_right _ _ (by omega), Int.ediv_eq_zero_of_lt b0 b1]
    omega
  refine ⟨hd, ?_⟩
  rw [Int.emod_def, hd]
  grind
end Go.Proofs.YtidhogcijghogaaGreatDoor
