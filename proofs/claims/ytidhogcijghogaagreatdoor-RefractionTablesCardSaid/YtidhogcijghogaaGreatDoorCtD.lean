/- The contract of bits.Div64. -/
import Derived.Test.YtidhogcijghogaaGreatDoorVcD
import Derived.Test.YtidhogcijghogaaGreatDoorDigit
import Derived.Test.YtidhogcijghogaaGreatDoorCtW
import Derived.Test.YtidhogcijghogaaGreatDoorShelf
namespace Go.Proofs.YtidhogcijghogaaGreatDoor
open Go Go.Abs Go.RowKit
set_option linter.unusedVariables false
set_option linter.unusedSimpArgs false
theorem bitLen_ends : ∀ (n x : Nat), x ≤ n → x ≠ 0 → x < 2 ^ 64 → 2 ^ Lib.bitLen x ≤ 2 * x ∧ x < 2 ^ Lib.bitLen x
  | 0, x, h, h0, _ => absurd (by omega) h0
  | n + 1, x, h, h0, h1 => by
    rw [Lib.bitLen_half x h0 h1, Nat.add_comm, Nat.pow_succ]
    by_cases q : x / 2 = 0
    · have e : x = 1 := by omega
      subst e
      exact ⟨by decide, by decide⟩
    · obtain ⟨a, b⟩ := bitLen_ends n (x / 2) (by omega) q (by omega)
      omega
theorem pow_cast (n : Nat) : (2 : Int) ^ n = ((2 ^ n : Nat) : Int) := (Int.natCast_pow 2 n).symm
/-- The word y, moved until its first bit is at the front. -/
theorem norm_word {y : Int} (h0 : 0 < y) (h1 : y < 18446744073709551616) : ∃ n : Nat, lzI y = n ∧ n ≤ 63 ∧ 9223372036854775808 ≤ y * 2 ^ n ∧ y * 2 ^ n < 18446744073709551616 := by
  obtain ⟨x, rfl⟩ : ∃ x : Nat, y = x := ⟨y.toNat, by omega⟩
  have hx : x < 2 ^ 64 := by omega
  obtain ⟨a, b⟩ := bitLen_ends x x (Nat.le_refl _) (by omega) hx
  have hl : Lib.bitLen x ≤ 64 := Lib.bitLen_le x 64 (Nat.le_refl _) hx
  have hl0 : 0 < Lib.bitLen x := by
    rcases Nat.eq_zero_or_pos (Lib.bitLen x) with h | h
    · rw [h] at b; omega
    · exact h
  have e : 2 ^ Lib.bitLen x * 2 ^ (64 - Lib.bitLen x) = 18446744073709551616 := by rw [← Nat.pow_add, show Lib.bitLen x + (64 - Lib.bitLen x) = 64 by omega]
  refine ⟨64 - Lib.bitLen x, by unfold lzI; simp only [Int.toNat_natCast]; omega, by omega, ?_⟩
  rw [pow_cast]
  have c1 := Nat.mul_le_mul_right (2 ^ (64 - Lib.bitLen x)) a
  have c2 := Nat.mul_lt_mul_of_pos_right b (Nat.two_pow_pos (64 - Lib.bitLen x))
  rw [e] at c1 c2
  rw [Nat.mul_assoc] at c1
  rw [← Int.natCast_mul]
  omega
/-- The upper word of a number that is moved. -/
theorem or_shift {h l : Int} {n : Nat} (hn : n ≤ 63) (hh : 0 ≤ h) (hb : h * 2 ^ n < 18446744073709551616) (hl : 0 ≤ l) (hl1 : l < 18446744073709551616) :
    orI .u64 (h * 2 ^ n) (l / 2 ^ (64 - n)) = (h * 18446744073709551616 + l) * 2 ^ n / 18446744073709551616 := by
  obtain ⟨a, rfl⟩ : ∃ a : Nat, h = a := ⟨h.toNat, by omega⟩
  obtain ⟨b, rfl⟩ : ∃ b : Nat, l = b := ⟨l.toNat, by omega⟩
  have e64 : 2 ^ (64 - n) * 2 ^ n = 18446744073709551616 := by rw [← Nat.pow_add, show 64 - n + n = 64 by omega]
  have hlt : b / 2 ^ (64 - n) < 2 ^ n := by
    apply Nat.div_lt_of_lt_mul
    rw [e64]
    omega
  have hd2 : b * 2 ^ n / 18446744073709551616 = b / 2 ^ (64 - n) := by rw [← e64, Nat.mul_div_mul_right _ _ (Nat.two_pow_pos n)]
  have hor := or_add (i := n) (A := a * 2 ^ n) (Nat.mul_mod_left _ _) hlt
  rw [pow_cast, pow_cast, ← Int.natCast_mul] at *
  rw [← Int.natCast_ediv]
  have hb' : a * 2 ^ n < 18446744073709551616 := by omega
  have hle : a * 2 ^ n + 2 ^ n ≤ 18446744073709551616 := by
    have : a < 2 ^ (64 - n) := by
      rcases Nat.lt_or_ge a (2 ^ (64 - n)) with q | q
      · exact q
      · have := Nat.mul_le_mul_right (2 ^ n) q
        omega
    have := Nat.mul_le_mul_right (2 ^ n) (show a + 1 ≤ 2 ^ (64 - n) by omega)
    rw [Nat.add_mul] at this
    omega
  rw [orI_u, wrap_u]
  have e1 : (BitVec.ofInt 64 ((a * 2 ^ n : Nat) : Int)).toNat = a * 2 ^ n := by
    have := mod64 ((a * 2 ^ n : Nat) : Int)
    omega
  have e2 : (BitVec.ofInt 64 ((b / 2 ^ (64 - n) : Nat) : Int)).toNat = b / 2 ^ (64 - n) := by
    have := mod64 ((b / 2 ^ (64 - n) : Nat) : Int)
    have := Nat.div_le_self b (2 ^ (64 - n))
    omega
  rw [e1, e2, hor]
  have hr : (((a : Int) * 18446744073709551616 + b) * (2 ^ n : Nat)) = ((b * 2 ^ n : Nat) : Int) + ((a * 2 ^ n : Nat) : Int) * 18446744073709551616 := by
    rw [Int.natCast_mul, Int.natCast_mul]
    grind
  rw [hr, Int.add_mul_ediv_right _ _ (by decide)]
  have : ((b * 2 ^ n : Nat) : Int) / 18446744073709551616 = ((b * 2 ^ n / 18446744073709551616 : Nat) : Int) := (Int.natCast_ediv _ _).symm
  rw [this, hd2]
  omega
/-- A round of the loop that corrects a digit. -/
theorem dig_body {a b U D q r : Int} (hi : DigIn a b U D) (d : Dig a b U D q r) :
    bcase (decide (q ≥ 4294967296))
      (bcase (decide (IntKind.u64.wrap (r + a) ≥ 4294967296)) (IntKind.u64.wrap (q - 1) = digI a b U D) (Dig a b U D (IntKind.u64.wrap (q - 1)) (IntKind.u64.wrap (r + a)) ∧ (IntKind.u64.wrap (q - 1)).toNat < q.toNat))
      (bcase (decide (IntKind.u64.wrap (q * b) > IntKind.u64.wrap (IntKind.u64.wrap (4294967296 * r) + D)))
        (bcase (decide (IntKind.u64.wrap (r + a) ≥ 4294967296)) (IntKind.u64.wrap (q - 1) = digI a b U D) (Dig a b U D (IntKind.u64.wrap (q - 1)) (IntKind.u64.wrap (r + a)) ∧ (IntKind.u64.wrap (q - 1)).toNat < q.toNat))
        (q = digI a b U D)) := by
  have hi' := hi
  have d' := d
  obtain ⟨a0, a1, b0, b1, c0, c1, d0, d1⟩ := hi'
  obtain ⟨s, r0, r1, q0, q1, l⟩ := d'
  have e1 : IntKind.u64.wrap (r + a) = r + a := by rw [wrap_u]; omega
  have more : (q ≥ 4294967296 ∨ q * b > 4294967296 * r + D) → bcase (decide (IntKind.u64.wrap (r + a) ≥ 4294967296)) (IntKind.u64.wrap (q - 1) = digI a b U D) (Dig a b U D (IntKind.u64.wrap (q - 1)) (IntKind.u64.wrap (r + a)) ∧ (IntKind.u64.wrap (q - 1)).toNat < q.toNat) := fun hc => by
    have h1 := d.less hi hc
    have e2 : IntKind.u64.wrap (q - 1) = q - 1 := by rw [wrap_u]; omega
    rw [e1, e2]
    simp only [bcase_iff, decide_eq_true_eq, decide_eq_false_iff_not]
    refine ⟨fun h => (d.stop hi hc h).symm, fun h => ⟨d.next hi hc (by omega), by omega⟩⟩
  by_cases hq : q ≥ 4294967296
  · rw [decide_eq_true hq]; exact more (.inl hq)
  · rw [decide_eq_false hq]
    have hb := Int.mul_le_mul (show q ≤ 4294967295 by omega) (show b ≤ 4294967295 by omega) b0 (by decide)
    have hb0 := Int.mul_nonneg q0 b0
    have e3 : IntKind.u64.wrap (q * b) = q * b := by rw [wrap_u]; omega
    have e4 : IntKind.u64.wrap (IntKind.u64.wrap (4294967296 * r) + D) = 4294967296 * r + D := by rw [wrap_u, wrap_u]; omega
    rw [e3, e4]
    by_cases hc : q * b > 4294967296 * r + D
    · rw [decide_eq_true hc]; exact more (.inr hc)
    · rw [decide_eq_false hc]; exact (d.done hi (by omega)).symm
theorem dig_start {a b U D : Int} (hi : DigIn a b U D) :
    Dig a b U D (IntKind.u64.wrap (U.tdiv a)) (IntKind.u64.wrap (U - IntKind.u64.wrap (IntKind.u64.wrap (U.tdiv a) * a))) := by
  have d := Dig.start hi
  have d' := d
  obtain ⟨a0, a1, b0, b1, c0, c1, d0, d1⟩ := hi
  obtain ⟨s, r0, r1, q0, q1, l⟩ := d'
  rw [Int.tdiv_eq_ediv_of_nonneg c0]
  have e1 : IntKind.u64.wrap (U / a) = U / a := by rw [wrap_u]; omega
  have e2 : IntKind.u64.wrap (U - IntKind.u64.wrap (U / a * a)) = U - U / a * a := by rw [wrap_u, wrap_u]; omega
  rw [e1, e2]
  exact d
theorem c_lz64 {Φ : World → Prop} (y : Int) (hy : U64 y) : Ans Tryz.prog Φ 120 [.int .u64 y] (.int .i64 (lzI y)) := fun w _ =>
  (Tryz.bits_LeadingZeros64 y w hy.1 (by have := hy.2; omega)).mono fun e w' ⟨h1, h2⟩ => ⟨h1, by subst h2; exact Below.refl _ _⟩
variable {Φ : World → Prop} (hst : ∀ w w', Φ w → Below w.heap.size w w' → Φ w')
theorem s_div : Sound Tryz.prog Φ ΓD :=
  Sound.cons (by kernel_rfl) (fun args p v h hp => by unfold sLz64 at h; split at h <;> cases h; exact c_lz64 _ hp) Sound.nil
include hst
theorem c_div64 (h l y : Int) (hh : U64 h) (hl : U64 l) (hy : U64 y) (hlt : h < y) : Ans Tryz.prog Φ 99 [.int .u64 h, .int .u64 l, .int .u64 y] (pair (.int .u64 ((h * 18446744073709551616 + l) / y)) (.int .u64 ((h * 18446744073709551616 + l) % y))) := by
  refine fn_by hst s_div (vc_div64 h l y _) ?_
  have hy0 : 0 < y := by have := hh.1; omega
  obtain ⟨n, hn, hn63, b0, b1⟩ := norm_word hy0 hy.2
  have e0 : (y == 0) = false := by simp; omega
  have e1 : decide (y ≤ h) = false := by simp; omega
  rw [e0, e1]
  unfold U64 at hh hl hy
  have hw : IntKind.u64.wrap (lzI y) = n := by rw [hn, wrap_u]; omega
  have hw2 : min (n : Int).toNat 64 = n := by omega
  have hw3 : IntKind.u64.wrap (64 - (n : Int)) = 64 - n := by rw [wrap_u]; omega
  have hw4 : min (64 - (n : Int)).toNat 64 = 64 - n := by omega
  have hwy : IntKind.u64.wrap (y * 2 ^ n) = y * 2 ^ n := by rw [wrap_u]; omega
  have p0 : (0 : Int) < 2 ^ n := Int.pow_pos (by decide)
  have hhn : h * 2 ^ n < 18446744073709551616 := by
    have := Int.mul_le_mul_of_nonneg_right (show h ≤ y by omega) (show (0 : Int) ≤ 2 ^ n by omega)
    omega
  have hhn0 : 0 ≤ h * 2 ^ n := Int.mul_nonneg hh.1 (by omega)
  have hwh : IntKind.u64.wrap (h * 2 ^ n) = h * 2 ^ n := by rw [wrap_u]; omega
  have hfl : l.fdiv (2 ^ (64 - n)) = l / 2 ^ (64 - n) := Int.fdiv_eq_ediv_of_nonneg _ (Int.le_of_lt (Int.pow_pos (by decide)))
  have hun : orI .u64 (h * 2 ^ n) (l / 2 ^ (64 - n)) = (h * 18446744073709551616 + l) * 2 ^ n / 18446744073709551616 := or_shift hn63 hh.1 hhn hl.1 hl.2
  simp only [hw, hw2, hw3, hw4, hwy, hwh, hfl, hun, fdiv32, and32u]
  have hq : (h * 18446744073709551616 + l) / y = (h * 18446744073709551616 + l) * 2 ^ n / (y * 2 ^ n) := (norm_div p0).symm
  have hr : (h * 18446744073709551616 + l) % y = (h * 18446744073709551616 + l) * 2 ^ n % (y * 2 ^ n) / 2 ^ n := (norm_mod p0).symm
  have hV : (h * 18446744073709551616 + l) * 2 ^ n < y * 2 ^ n * 18446744073709551616 := by
    have h1 : h * 18446744073709551616 + l < y * 18446744073709551616 := by omega
    have := Int.mul_lt_mul_of_pos_right h1 p0
    grind
  have hV0 : 0 ≤ (h * 18446744073709551616 + l) * 2 ^ n := Int.mul_nonneg (by omega) (by omega)
  have hlo : IntKind.u64.wrap (l * 2 ^ n) = (h * 18446744073709551616 + l) * 2 ^ n % 18446744073709551616 := by
    rw [wrap_u]
    have : (h * 18446744073709551616 + l) * 2 ^ n = l * 2 ^ n + (h * 2 ^ n) * 18446744073709551616 := by grind
    rw [this, Int.add_mul_emod_self_right]
  have hfr : ∀ x : Int, x.fdiv (2 ^ n) = x / 2 ^ n := fun x => Int.fdiv_eq_ediv_of_nonneg _ (by omega)
  simp only [hlo, hfr]
  have h0 : (h == 0) = true → (h * 18446744073709551616 + l) / y = l.tdiv y ∧ (h * 18446744073709551616 + l) % y = l.tmod y := fun q => by
    have : h = 0 := by simpa using q
    subst this
    rw [Int.zero_mul, Int.zero_add, Int.tdiv_eq_ediv_of_nonneg hl.1, Int.tmod_eq_emod_of_nonneg hl.1]
    exact ⟨rfl, rfl⟩
  have hUy : U64 y := hy
  have q0 : 0 ≤ l / y := Int.ediv_nonneg hl.1 (by omega)
  have q1 : l / y ≤ l := Int.ediv_le_self _ hl.1
  by_cases hz : (h == 0) = true
  · obtain ⟨z1, z2⟩ := h0 hz
    rw [hz]
    refine eq_pair (eq_num ?_) (eq_num z2.symm)
    rw [z1, Int.tdiv_eq_ediv_of_nonneg hl.1, wrap_u]
    omega
  simp only [Bool.not_eq_true] at hz
  rw [hz]
  refine ⟨hUy, ?_⟩
  rw [hq, hr]
  clear h0 hfr hlo hr hq hun hfl hwh hhn0 hhn hwy hw4 hw3 hw2 hw q0 q1 hz
  generalize (h * 18446744073709551616 + l) * 2 ^ n = V at *
  generalize y * 2 ^ n = Y at *
  generalize (2 : Int) ^ n = p at *
  have f1 : decide ((n : Int) < 0) = false := by simp
  have f2 : decide (64 - (n : Int) < 0) = false := by simp; omega
  have f3 : (Y / 4294967296 == 0) = false := by simp; omega
  rw [f1, f2, f3]
  simp only [true_and, and_true, Prod.exists, Prod.forall, and_assoc, exists_eq_left', exists_eq_left, exists_and_left, bcase_true, bcase_false]
  have hY : Y / 4294967296 * 4294967296 + Y % 4294967296 = Y := by omega
  have hi1 : DigIn (Y / 4294967296) (Y % 4294967296) (V / 18446744073709551616) (V % 18446744073709551616 / 4294967296) := by
    refine ⟨by omega, by omega, by omega, by omega, by omega, by rw [hY]; omega, by omega, by omega⟩
  refine ⟨?_, dig_start hi1, fun q r d => dig_body hi1 d⟩
  rintro s rfl
  generalize hs : digI (Y / 4294967296) (Y % 4294967296) (V / 18446744073709551616) (V % 18446744073709551616 / 4294967296) = s
  unfold digI at hs
  rw [hY] at hs
  have m0 := Int.emod_nonneg (V / 18446744073709551616 * 4294967296 + V % 18446744073709551616 / 4294967296) (show Y ≠ 0 by omega)
  have m1 := Int.emod_lt_of_pos (V / 18446744073709551616 * 4294967296 + V % 18446744073709551616 / 4294967296) (show 0 < Y by omega)
  rw [Int.emod_def, hs, Int.mul_comm Y s] at m0 m1
  have hU : IntKind.u64.wrap (IntKind.u64.wrap (IntKind.u64.wrap (V / 18446744073709551616 * 4294967296) + V % 18446744073709551616 / 4294967296) - IntKind.u64.wrap (s * Y)) =
      V / 18446744073709551616 * 4294967296 + V % 18446744073709551616 / 4294967296 - s * Y := by
    simp only [wrap_u]
    omega
  rw [hU]
  have hi2 : DigIn (Y / 4294967296) (Y % 4294967296) (V / 18446744073709551616 * 4294967296 + V % 18446744073709551616 / 4294967296 - s * Y) (V % 18446744073709551616 % 4294967296) := by
    refine ⟨by omega, by omega, by omega, by omega, by omega, by rw [hY]; omega, by omega, by omega⟩
  refine ⟨?_, dig_start hi2, fun q r d => dig_body hi2 d⟩
  rintro t rfl
  generalize ht : digI (Y / 4294967296) (Y % 4294967296) (V / 18446744073709551616 * 4294967296 + V % 18446744073709551616 / 4294967296 - s * Y) (V % 18446744073709551616 % 4294967296) = t
  unfold digI at ht
  rw [hY] at ht
  obtain ⟨g1, g2⟩ := two_digits (Y := Y) (un := V / 18446744073709551616) (u1 := V % 18446744073709551616 / 4294967296) (u0 := V % 18446744073709551616 % 4294967296) (by omega) hs.symm ht.symm
  have hVV : V / 18446744073709551616 * 18446744073709551616 + V % 18446744073709551616 / 4294967296 * 4294967296 + V % 18446744073709551616 % 4294967296 = V := by omega
  rw [hVV] at g1 g2
  have n0 := Int.emod_nonneg V (show Y ≠ 0 by omega)
  have n1 := Int.emod_lt_of_pos V (show 0 < Y by omega)
  have v0 : 0 ≤ V / Y := Int.ediv_nonneg hV0 (by omega)
  have v1 : V / Y < 18446744073709551616 := Int.ediv_lt_of_lt_mul (by omega) (by rw [Int.mul_comm]; exact hV)
  refine eq_pair (eq_num ?_) (eq_num ?_)
  · simp only [wrap_u]
    omega
  · have : IntKind.u64.wrap (IntKind.u64.wrap (IntKind.u64.wrap ((V / 18446744073709551616 * 4294967296 + V % 18446744073709551616 / 4294967296 - s * Y) * 4294967296) + V % 18446744073709551616 % 4294967296) - IntKind.u64.wrap (t * Y)) = V % Y := by
      simp only [wrap_u]
      omega
    rw [this]
end Go.Proofs.YtidhogcijghogaaGreatDoor
