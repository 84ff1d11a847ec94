/- The reference's quick sine: contracts. -/
import Derived.Test.YtikbpleaaaeibaaTrhV
namespace Go.Proofs.Ytikbpleaaaeibaa
open Go Go.Abs Go.RowKit Go.Sine
set_option linter.unusedVariables false
set_option linter.unusedSimpArgs false
theorem and31 {a : Int} (h : B62 a) : andI .i64 a 2147483647 = a % 2147483648 := by
  obtain ⟨h0, h1⟩ := h
  obtain ⟨n, rfl⟩ := Int.eq_ofNat_of_zero_le h0
  have e1 : (BitVec.ofInt 64 (n : Int)).toNat = n := by rw [BitVec.toNat_ofInt]; omega
  have e2 : (BitVec.ofInt 64 2147483647).toNat = 2147483647 := by decide
  have : andI .i64 (n : Int) 2147483647 = IntKind.i64.wrap (((BitVec.ofInt 64 (n : Int) &&& BitVec.ofInt 64 2147483647).toNat : Nat) : Int) := rfl
  rw [this, BitVec.toNat_and, e1, e2]
  have e3 : n &&& 2147483647 = n % 2147483648 := Nat.and_two_pow_sub_one_eq_mod n 31
  rw [e3, wrap_in (by omega)]
  omega
theorem shr31 {a : Int} : a.fdiv (2 ^ 31) = a / 2147483648 := by
  rw [Int.fdiv_eq_ediv_of_nonneg _ (by decide)]; rfl
theorem hiI_eq {a b : Int} (ha : B62 a) (hb : B62 b) : hiI a b = a / 2147483648 * (b / 2147483648) + a / 2147483648 * (b % 2147483648) / 2147483648 + a % 2147483648 * (b / 2147483648) / 2147483648 := by
  obtain ⟨a0, a1⟩ := ha
  obtain ⟨b0, b1⟩ := hb
  obtain ⟨m, rfl⟩ := Int.eq_ofNat_of_zero_le a0
  obtain ⟨n, rfl⟩ := Int.eq_ofNat_of_zero_le b0
  unfold hiI hi
  simp
theorem hi_62 {a b : Int} (ha : B62 a) (hb : B62 b) : B62 (hiI a b) ∧ hiI a b ≤ a := by
  obtain ⟨a0, a1⟩ := ha
  obtain ⟨b0, b1⟩ := hb
  unfold hiI
  have h := hi_le a.toNat b.toNat (by omega)
  unfold B62
  omega
variable {Φ : World → Prop} (hst : ∀ w w', Φ w → Below w.heap.size w w' → Φ w')
include hst
omit hst in
theorem s_Q1 : Sound Try.prog Φ ΓQ1 := Sound.nil
omit hst in
theorem qk_more (sq : Nat) (hq : sq ≤ 2 ^ 62) : ∀ (m t d : Nat), t < prod d m → qk (m + 1) t sq d = qk m t sq d
  | 0, t, d, h => by
    have : t = 0 := by unfold prod at h; omega
    subst this
    unfold qk qk
    rfl
  | m + 1, t, d, h => by
    have h' : t < d * (d + 1) * prod (d + 2) m := h
    have e1 : qk (m + 1 + 1) t sq d = t - qk (m + 1) (hi t sq / (d * (d + 1))) sq (d + 2) := rfl
    have e2 : qk (m + 1) t sq d = t - qk m (hi t sq / (d * (d + 1))) sq (d + 2) := rfl
    rw [e1, e2, qk_more sq hq m _ (d + 2) (Nat.div_lt_of_lt_mul (Nat.lt_of_le_of_lt (hi_le t sq hq) h'))]
omit hst in
theorem qk_zero (sq : Nat) : ∀ (m d : Nat), qk m 0 sq d = 0
  | 0, _ => rfl
  | m + 1, d => by
    have e1 : qk (m + 1) 0 sq d = ((0 : Nat) : Int) - qk m (hi 0 sq / (d * (d + 1))) sq (d + 2) := rfl
    rw [e1, hi_zero, Nat.zero_div, qk_zero sq m]
    rfl
omit hst in
theorem hiI_cast (t : Nat) (sq : Nat) : hiI (t : Int) (sq : Int) = ((hi t sq : Nat) : Int) := by unfold hiI; simp
omit hst in
theorem quick_main {T : Int} {sq : Nat} (hq : sq ≤ 2 ^ 62) (K : Int → Prop) (hK : K T) : ∀ (s : Qk),
    QkR T sq s.1 s.2 s.3 s.4 →
    bcase (decide ((s.3 : Int) > 0))
    ((B62 (s.3 : Int) ∧ B62 (sq : Int)) ∧
    bcase (IntKind.i64.wrap ((s.4 : Int) * IntKind.i64.wrap ((s.4 : Int) + 1)) == 0) False
    ((B62 (IntKind.i64.wrap ((hiI (s.3 : Int) (sq : Int)).tdiv (IntKind.i64.wrap ((s.4 : Int) * IntKind.i64.wrap ((s.4 : Int) + 1))))) ∧ B62 (sq : Int)) ∧
    bcase (IntKind.i64.wrap (IntKind.i64.wrap ((s.4 : Int) + 2) * IntKind.i64.wrap ((s.4 : Int) + 3)) == 0) False
    (∃ (s_1 : Qk),
    ((sq : Int) = (sq : Int) ∧
    IntKind.i64.wrap ((hiI (IntKind.i64.wrap ((hiI (s.3 : Int) (sq : Int)).tdiv (IntKind.i64.wrap ((s.4 : Int) * IntKind.i64.wrap ((s.4 : Int) + 1))))) (sq : Int)).tdiv (IntKind.i64.wrap (IntKind.i64.wrap ((s.4 : Int) + 2) * IntKind.i64.wrap ((s.4 : Int) + 3)))) = (s_1.3 : Int) ∧
    IntKind.i64.wrap ((s.4 : Int) + 4) = (s_1.4 : Int) ∧
    IntKind.i64.wrap (IntKind.i64.wrap (s.2 + (s.3 : Int)) - IntKind.i64.wrap ((hiI (s.3 : Int) (sq : Int)).tdiv (IntKind.i64.wrap ((s.4 : Int) * IntKind.i64.wrap ((s.4 : Int) + 1))))) = s_1.2 ∧ True) ∧
    QkR T sq s_1.1 s_1.2 s_1.3 s_1.4 ∧ s_1.1 < s.1)))
    (K s.2) := by
  rintro ⟨k, s, t, d⟩ ⟨hk, d0, d1, t1, sum, s0, s1⟩
  dsimp only at *
  have bq : B62 (sq : Int) := by unfold B62; omega
  refine bcase_iff.mpr ⟨fun q => ?_, fun q => ?_⟩
  · have q := of_decide_eq_true q
    obtain ⟨j, rfl⟩ : ∃ j, k = j + 1 := ⟨k - 1, by
      rcases Nat.eq_zero_or_pos k with e | e
      · subst e
        have : t < 1 := t1
        omega
      · omega⟩
    have bt : B62 (t : Int) := by unfold B62; omega
    have m1 : d * (d + 1) ≤ 25 * 26 := Nat.mul_le_mul (by omega) (by omega)
    have m2 : (d + 2) * (d + 3) ≤ 27 * 28 := Nat.mul_le_mul (by omega) (by omega)
    have p1 : 0 < d * (d + 1) := Nat.mul_pos (by omega) (by omega)
    have p2 : 0 < (d + 2) * (d + 3) := Nat.mul_pos (by omega) (by omega)
    have w1 : IntKind.i64.wrap ((d : Int) * IntKind.i64.wrap ((d : Int) + 1)) = ((d * (d + 1) : Nat) : Int) := by
      rw [wrap_in (n := (d : Int) + 1) (by omega)]
      have : (d : Int) * (d + 1) = ((d * (d + 1) : Nat) : Int) := by simp
      rw [this, wrap_in (by omega)]
    have w2 : IntKind.i64.wrap (IntKind.i64.wrap ((d : Int) + 2) * IntKind.i64.wrap ((d : Int) + 3)) = (((d + 2) * (d + 3) : Nat) : Int) := by
      rw [wrap_in (n := (d : Int) + 2) (by omega), wrap_in (n := (d : Int) + 3) (by omega)]
      have : ((d : Int) + 2) * (d + 3) = (((d + 2) * (d + 3) : Nat) : Int) := by simp
      rw [this, wrap_in (by omega)]
    have h1 := hi_le t sq hq
    have h2 := hi_le (hi t sq / (d * (d + 1))) sq hq
    have l1 : hi t sq / (d * (d + 1)) ≤ hi t sq := Nat.div_le_self _ _
    have l2 : hi (hi t sq / (d * (d + 1))) sq / ((d + 2) * (d + 3)) ≤ hi (hi t sq / (d * (d + 1))) sq := Nat.div_le_self _ _
    have x1 : t < d * (d + 1) * ((d + 2) * (d + 3) * prod (d + 4) (2 * j)) := t1
    have x2 : hi t sq / (d * (d + 1)) < (d + 2) * (d + 3) * prod (d + 4) (2 * j) := Nat.div_lt_of_lt_mul (Nat.lt_of_le_of_lt h1 x1)
    have x3 : hi (hi t sq / (d * (d + 1))) sq / ((d + 2) * (d + 3)) < prod (d + 4) (2 * j) := Nat.div_lt_of_lt_mul (Nat.lt_of_le_of_lt h2 x2)
    have y : s + ((t : Int) - (((hi t sq / (d * (d + 1)) : Nat) : Int) - qk (2 * j) (hi (hi t sq / (d * (d + 1))) sq / ((d + 2) * (d + 3))) sq (d + 4))) = T := sum
    have c1 : (hiI (t : Int) (sq : Int)).tdiv ((d * (d + 1) : Nat) : Int) = ((hi t sq / (d * (d + 1)) : Nat) : Int) := by rw [hiI_cast, ← Int.ofNat_tdiv]
    have c2 : (hiI ((hi t sq / (d * (d + 1)) : Nat) : Int) (sq : Int)).tdiv (((d + 2) * (d + 3) : Nat) : Int) = ((hi (hi t sq / (d * (d + 1))) sq / ((d + 2) * (d + 3)) : Nat) : Int) := by rw [hiI_cast, ← Int.ofNat_tdiv]
    have f1 : hi t sq / (d * (d + 1)) ≤ t := Nat.le_trans l1 h1
    have f2 : hi (hi t sq / (d * (d + 1))) sq / ((d + 2) * (d + 3)) ≤ hi t sq / (d * (d + 1)) := Nat.le_trans l2 h2
    rw [w1, w2, c1]
    clear h1 h2 l1 l2 x1 x2 sum t1
    generalize hi t sq / (d * (d + 1)) = u1 at *
    rw [wrap_in (n := (u1 : Int)) (by omega), c2]
    generalize hi u1 sq / ((d + 2) * (d + 3)) = u2 at *
    rw [wrap_in (n := (u2 : Int)) (by omega)]
    refine ⟨⟨bt, bq⟩, bcase_iff.mpr ⟨fun z => absurd (eq_of_beq z) (by omega), fun _ => ⟨⟨by unfold B62; omega, bq⟩, bcase_iff.mpr ⟨fun z => absurd (eq_of_beq z) (by omega), fun _ => ⟨⟨j, s + t - u1, u2, d + 4⟩, ⟨rfl, rfl, ?_, ?_, trivial⟩, ⟨?_, ?_, ?_, ?_, ?_, ?_, ?_⟩, ?_⟩⟩⟩⟩⟩
    · rw [wrap_in (by omega)]; rfl
    · rw [wrap_in (n := s + (t : Int)) (by omega), wrap_in (by omega)]
    · dsimp only; omega
    · dsimp only; omega
    · dsimp only; omega
    · exact x3
    · dsimp only; omega
    · dsimp only; omega
    · dsimp only; omega
    · dsimp only; omega
  · have q := of_decide_eq_false q
    obtain rfl : t = 0 := by omega
    rw [qk_zero, Int.add_zero] at sum
    rw [sum]
    exact hK
end Go.Proofs.Ytikbpleaaaeibaa
