/- Arithmetic of wide: parts of words. No program is in sight here. -/
import Derived.Test.YtidhogcijghogaaGreatDoorSpecW
namespace Go.Proofs.YtidhogcijghogaaGreatDoor
open Go Go.Abs Go.RowKit
theorem two64 : ((2 ^ 64 : Nat) : Int) = 18446744073709551616 := by decide
theorem mod64 (b : Int) : ((BitVec.ofInt 64 b).toNat : Int) = b % 18446744073709551616 := by
  rw [BitVec.toNat_ofInt, two64]
  exact Int.toNat_of_nonneg (Int.emod_nonneg _ (by decide))
theorem and60 (b : Int) : andI .i64 b 1152921504606846975 = b % 1152921504606846976 := by
  unfold andI
  show IntKind.i64.wrap (((BitVec.ofInt 64 b &&& BitVec.ofInt 64 1152921504606846975).toNat : Nat) : Int) = _
  have h1 : ((BitVec.ofInt 64 b &&& BitVec.ofInt 64 1152921504606846975).toNat : Nat) = (BitVec.ofInt 64 b).toNat % 2 ^ 60 := by
    rw [BitVec.toNat_and, show (BitVec.ofInt 64 1152921504606846975).toNat = 2 ^ 60 - 1 from by decide, Nat.and_two_pow_sub_one_eq_mod]
  rw [h1]
  have h2 := mod64 b
  have h3 : (((BitVec.ofInt 64 b).toNat % 2 ^ 60 : Nat) : Int) = b % 1152921504606846976 := by omega
  rw [h3]
  exact wrap_in (by omega)
theorem and60u (b : Int) : andI .u64 b 1152921504606846975 = b % 1152921504606846976 := by
  unfold andI
  show IntKind.u64.wrap (((BitVec.ofInt 64 b &&& BitVec.ofInt 64 1152921504606846975).toNat : Nat) : Int) = _
  have h1 : ((BitVec.ofInt 64 b &&& BitVec.ofInt 64 1152921504606846975).toNat : Nat) = (BitVec.ofInt 64 b).toNat % 2 ^ 60 := by
    rw [BitVec.toNat_and, show (BitVec.ofInt 64 1152921504606846975).toNat = 2 ^ 60 - 1 from by decide, Nat.and_two_pow_sub_one_eq_mod]
  rw [h1]
  have h2 := mod64 b
  have h3 : (((BitVec.ofInt 64 b).toNat % 2 ^ 60 : Nat) : Int) = b % 1152921504606846976 := by omega
  rw [h3]
  show (b % 1152921504606846976) % 18446744073709551616 = _
  omega
theorem fdiv60 (b : Int) : b.fdiv (2 ^ 60) = b / 1152921504606846976 := by
  rw [show ((2 : Int) ^ 60) = 1152921504606846976 from by decide]
  exact Int.fdiv_eq_ediv_of_nonneg _ (by decide)
theorem and32u (b : Int) : andI .u64 b 4294967295 = b % 4294967296 := by
  unfold andI
  show IntKind.u64.wrap (((BitVec.ofInt 64 b &&& BitVec.ofInt 64 4294967295).toNat : Nat) : Int) = _
  have h1 : ((BitVec.ofInt 64 b &&& BitVec.ofInt 64 4294967295).toNat : Nat) = (BitVec.ofInt 64 b).toNat % 2 ^ 32 := by
    rw [BitVec.toNat_and, show (BitVec.ofInt 64 4294967295).toNat = 2 ^ 32 - 1 from by decide, Nat.and_two_pow_sub_one_eq_mod]
  rw [h1]
  have h2 := mod64 b
  have h3 : (((BitVec.ofInt 64 b).toNat % 2 ^ 32 : Nat) : Int) = b % 4294967296 := by omega
  rw [h3]
  show (b % 4294967296) % 18446744073709551616 = _
  omega
theorem fdiv32 (b : Int) : b.fdiv (2 ^ 32) = b / 4294967296 := by
  rw [show ((2 : Int) ^ 32) = 4294967296 from by decide]
  exact Int.fdiv_eq_ediv_of_nonneg _ (by decide)
theorem half_le {a b : Int} (ha : 0 ≤ a ∧ a ≤ 4294967295) (hb : 0 ≤ b ∧ b ≤ 4294967295) : 0 ≤ a * b ∧ a * b ≤ 18446744065119617025 :=
  ⟨Int.mul_nonneg ha.1 hb.1, by have := Int.mul_le_mul ha.2 hb.2 hb.1 (by decide : (0 : Int) ≤ 4294967295); omega⟩
theorem split_mulI (a b c d K : Int) : (a * K + b) * (c * K + d) = (a * c) * (K * K) + (a * d + b * c) * K + b * d := by
  grind
theorem or_add {i A B : Nat} (h : A % 2 ^ i = 0) (hB : B < 2 ^ i) : A ||| B = A + B := by
  have e : 2 ^ i * (A / 2 ^ i) = A := by have := Nat.div_add_mod A (2 ^ i); omega
  have := Nat.two_pow_add_eq_or_of_lt hB (A / 2 ^ i)
  rw [e] at this
  exact this.symm
theorem orI_i (a b : Int) : orI .i64 a b = IntKind.i64.wrap (((BitVec.ofInt 64 a).toNat ||| (BitVec.ofInt 64 b).toNat : Nat) : Int) := by
  unfold orI
  rw [← BitVec.toNat_or]
  rfl
theorem orI_u (a b : Int) : orI .u64 a b = IntKind.u64.wrap (((BitVec.ofInt 64 a).toNat ||| (BitVec.ofInt 64 b).toNat : Nat) : Int) := by
  unfold orI
  rw [← BitVec.toNat_or]
  rfl
theorem wrap_u (x : Int) : IntKind.u64.wrap x = x % 18446744073709551616 := rfl
theorem wrap_up {x : Int} (h : 9223372036854775808 ≤ x) (k : x < 18446744073709551616) : IntKind.i64.wrap x = x - 18446744073709551616 := by
  have e : IntKind.i64.wrap x = IntKind.i64.wrap (x - 18446744073709551616) := by
    simp only [IntKind.wrap]
    have : (x - 18446744073709551616) % 18446744073709551616 = x % 18446744073709551616 := by omega
    simp [IntKind.bits, IntKind.signed, this]
  rw [e, wrap_in (by omega)]
theorem or60_i {a b : Int} (ha : -8 ≤ a ∧ a ≤ 7) (hb : 0 ≤ b ∧ b < 1152921504606846976) : orI .i64 (IntKind.i64.wrap (a * 2 ^ 60)) b = a * 1152921504606846976 + b := by
  rw [show ((2 : Int) ^ 60) = 1152921504606846976 from by decide, wrap_in (by omega), orI_i]
  have hA := mod64 (a * 1152921504606846976)
  have hB := mod64 b
  rw [or_add (i := 60) (by omega) (by omega)]
  by_cases h : 0 ≤ a
  · rw [wrap_in (by omega)]; omega
  · rw [wrap_up (by omega) (by omega)]; omega
theorem or60_u {a b : Int} (hb : 0 ≤ b ∧ b < 1152921504606846976) : orI .u64 (IntKind.u64.wrap (a * 2 ^ 60)) b = (a * 1152921504606846976) % 18446744073709551616 + b := by
  rw [show ((2 : Int) ^ 60) = 1152921504606846976 from by decide, orI_u, wrap_u, wrap_u]
  have hA := mod64 (a * 1152921504606846976 % 18446744073709551616)
  have hB := mod64 b
  rw [or_add (i := 60) (by omega) (by omega)]
  omega
theorem or4_u {a b : Int} (hb : 0 ≤ b ∧ b < 16) : orI .u64 (IntKind.u64.wrap (a * 2 ^ 4)) b = (a * 16) % 18446744073709551616 + b := by
  rw [show ((2 : Int) ^ 4) = 16 from by decide, orI_u, wrap_u, wrap_u]
  have hA := mod64 (a * 16 % 18446744073709551616)
  have hB := mod64 b
  rw [or_add (i := 4) (by omega) (by omega)]
  omega
theorem rootI_spec : ∀ (n : Nat) (v r : Int), 0 ≤ r → r * r ≤ v → v < (r + 2 ^ n) * (r + 2 ^ n) →
    rootI n v r * rootI n v r ≤ v ∧ v < (rootI n v r + 1) * (rootI n v r + 1) ∧ r ≤ rootI n v r
  | 0, v, r, h0, h1, h2 => ⟨h1, by simpa [rootI] using h2, Int.le_refl _⟩
  | n + 1, v, r, h0, h1, h2 => by
    have hp : (0 : Int) ≤ 2 ^ n := Int.pow_nonneg (by decide)
    have e : r + (2 : Int) ^ (n + 1) = r + 2 ^ n + 2 ^ n := by rw [Int.pow_succ]; omega
    unfold rootI
    by_cases h : (r + 2 ^ n) * (r + 2 ^ n) ≤ v
    · rw [if_pos h]
      rw [e] at h2
      obtain ⟨a, b, c⟩ := rootI_spec n v (r + 2 ^ n) (by omega) h h2
      exact ⟨a, b, by omega⟩
    · rw [if_neg h]
      exact rootI_spec n v r h0 h1 (by omega)
end Go.Proofs.YtidhogcijghogaaGreatDoor
