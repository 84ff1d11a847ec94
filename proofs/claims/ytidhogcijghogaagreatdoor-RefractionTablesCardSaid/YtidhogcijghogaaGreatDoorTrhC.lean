/- The reference's quick sine: contracts. -/
import Derived.Test.YtidhogcijghogaaGreatDoorTrhV
namespace Go.Proofs.YtidhogcijghogaaGreatDoor
open Go Go.Abs Go.RowKit Go.Sine
set_option linter.unusedVariables false
set_option linter.unusedSimpArgs false
theorem and31 {a : Int} (h : B62 a) : andI .i64 a 2147483647 = a % 2147483648 := by
  obtain ⟨h0, h1⟩ := h
  obtain ⟨n, rfl⟩ := Int.eq_ofNat_of_zero_le h0
  have e1 : (BitVec.ofInt 64 (n : Int)).toNat = n := by rw [BitVec.toNat_ofInt]; omega
  have e2 : (BitVec.ofInt 64 2147483647).toNat = 2147483647 := by decide
  have : andI .i64 (n : Int) 2147483647 = IntKind.i64.wrap (((BitVec.ofInt 64 (n : Int) &&& BitVec.ofInt 64 2147483647).toNat : Nat) : Int) := rfl
  rw [this, BitVec.toNat_and, e1, e2]
  have e3 : n &&& 2147483647 = n % 2147483648 := Nat.and_two_pow_sub_one_eq_mod n 31
  rw [e3, wrap_in (by omega)]
  omega
theorem shr31 {a : Int} : a.fdiv (2 ^ 31) = a / 2147483648 := by
  rw [Int.fdiv_eq_ediv_of_nonneg _ (by decide)]; rfl
theorem hiI_eq {a b : Int} (ha : B62 a) (hb : B62 b) : hiI a b = a / 2147483648 * (b / 2147483648) + a / 2147483648 * (b % 2147483648) / 2147483648 + a % 2147483648 * (b / 2147483648) / 2147483648 := by
  obtain ⟨a0, a1⟩ := ha
  obtain ⟨b0, b1⟩ := hb
  obtain ⟨m, rfl⟩ := Int.eq_ofNat_of_zero_le a0
  obtain ⟨n, rfl⟩ := Int.eq_ofNat_of_zero_le b0
  unfold hiI hi
  simp
theorem hi_62 {a b : Int} (ha : B62 a) (hb : B62 b) : B62 (hiI a b) ∧ hiI a b ≤ a := by
  obtain ⟨a0, a1⟩ := ha
  obtain ⟨b0, b1⟩ := hb
  unfold hiI
  have h := hi_le a.toNat b.toNat (by omega)
  unfold B62
  omega
variable {Φ : World → Prop} (hst : ∀ w w', Φ w → Below w.heap.size w w' → Φ w')
include hst
theorem c_r6high {a b : Int} (ha : B62 a) (hb : B62 b) : Ans Tryz.prog Φ 131 [.int .i64 a, .int .i64 b] (.int .i64 (hiI a b)) := by
  refine fn_by hst Sound.nil (vc_r6high a b _) ?_
  rw [and31 ha, and31 hb, shr31, shr31, shr31, shr31, hiI_eq ha hb]
  have k := (hi_62 ha hb).1
  rw [hiI_eq ha hb] at k
  obtain ⟨a0, a1⟩ := ha
  obtain ⟨b0, b1⟩ := hb
  have p0 : 0 ≤ a / 2147483648 ∧ a / 2147483648 ≤ 2147483648 := by omega
  have q0 : 0 ≤ b / 2147483648 ∧ b / 2147483648 ≤ 2147483648 := by omega
  have p1 : 0 ≤ a % 2147483648 ∧ a % 2147483648 ≤ 2147483647 := by omega
  have q1 : 0 ≤ b % 2147483648 ∧ b % 2147483648 ≤ 2147483647 := by omega
  generalize a / 2147483648 = x at *
  generalize b / 2147483648 = y at *
  generalize a % 2147483648 = u at *
  generalize b % 2147483648 = v at *
  have m1 := Int.mul_nonneg p0.1 q1.1
  have m2 := Int.mul_nonneg p1.1 q0.1
  have m3 : x * v ≤ 2147483648 * 2147483647 := Int.mul_le_mul p0.2 q1.2 q1.1 (by decide)
  have m4 : u * y ≤ 2147483647 * 2147483648 := Int.mul_le_mul p1.2 q0.2 q0.1 (by decide)
  have m5 := Int.mul_nonneg p0.1 q0.1
  unfold B62 at k
  generalize x * v = e1 at *
  generalize u * y = e2 at *
  generalize x * y = e3 at *
  rw [wrap_in (n := e1) (by omega), wrap_in (n := e2) (by omega), wrap_in (n := e3) (by omega), wrap_in (n := e3 + e1 / 2147483648) (by omega), wrap_in (by omega)]
theorem s_Q1 : Sound Tryz.prog Φ ΓQ1 := Sound.cons (by kernel_rfl) (fun args p v h hp => by unfold sHigh at h; split at h <;> cases h; exact c_r6high hst hp.1 hp.2) Sound.nil
omit hst in
theorem qk_more (sq : Nat) (hq : sq ≤ 2 ^ 62) : ∀ (m t d : Nat), t < prod d m → qk (m + 1) t sq d = qk m t sq d
  | 0, t, d, h => by
    have : t = 0 := by unfold prod at h; omega
    subst this
    unfold qk qk
    rfl
  | m + 1, t, d, h => by
    have h' : t < d * (d + 1) * prod (d + 2) m := h
    have e1 : qk (m + 1 + 1) t sq d = t - qk (m + 1) (hi t sq / (d * (d + 1))) sq (d + 2) := rfl
    have e2 : qk (m + 1) t sq d = t - qk m (hi t sq / (d * (d + 1))) sq (d + 2) := rfl
    rw [e1, e2, qk_more sq hq m _ (d + 2) (Nat.div_lt_of_lt_mul (Nat.lt_of_le_of_lt (hi_le t sq hq) h'))]
omit hst in
theorem qk_zero (sq : Nat) : ∀ (m d : Nat), qk m 0 sq d = 0
  | 0, _ => rfl
  | m + 1, d => by
    have e1 : qk (m + 1) 0 sq d = ((0 : Nat) : Int) - qk m (hi 0 sq / (d * (d + 1))) sq (d + 2) := rfl
    rw [e1, hi_zero, Nat.zero_div, qk_zero sq m]
    rfl
omit hst in
theorem hiI_cast (t : Nat) (sq : Nat) : hiI (t : Int) (sq : Int) = ((hi t sq : Nat) : Int) := by unfold hiI; simp
omit hst in
theorem quick_main {T : Int} {sq : Nat} (hq : sq ≤ 2 ^ 62) (K : Int → Prop) (hK : K T) : ∀ (s : Qk),
    QkR T sq s.1 s.2 s.3 s.4 →
    bcase (decide ((s.3 : Int) > 0))
    ((B62 (s.3 : Int) ∧ B62 (sq : Int)) ∧
    bcase (IntKind.i64.wrap ((s.4 : Int) * IntKind.i64.wrap ((s.4 : Int) + 1)) == 0) False
    ((B62 (IntKind.i64.wrap ((hiI (s.3 : Int) (sq : Int)).tdiv (IntKind.i64.wrap ((s.4 : Int) * IntKind.i64.wrap ((s.4 : Int) + 1))))) ∧ B62 (sq : Int)) ∧
    bcase (IntKind.i64.wrap (IntKind.i64.wrap ((s.4 : Int) + 2) * IntKind.i64.wrap ((s.4 : Int) + 3)) == 0) False
    (∃ (s_1 : Qk),
    ((sq : Int) = (sq : Int) ∧
    IntKind.i64.wrap ((hiI (IntKind.i64.wrap ((hiI (s.3 : Int) (sq : Int)).tdiv (IntKind.i64.wrap ((s.4 : Int) * IntKind.i64.wrap ((s.4 : Int) + 1))))) (sq : Int)).tdiv (IntKind.i64.wrap (IntKind.i64.wrap ((s.4 : Int) + 2) * IntKind.i64.wrap ((s.4 : Int) + 3)))) = (s_1.3 : Int) ∧
    IntKind.i64.wrap ((s.4 : Int) + 4) = (s_1.4 : Int) ∧
    IntKind.i64.wrap (IntKind.i64.wrap (s.2 + (s.3 : Int)) - IntKind.i64.wrap ((hiI (s.3 : Int) (sq : Int)).tdiv (IntKind.i64.wrap ((s.4 : Int) * IntKind.i64.wrap ((s.4 : Int) + 1))))) = s_1.2 ∧ True) ∧
    QkR T sq s_1.1 s_1.2 s_1.3 s_1.4 ∧ s_1.1 < s.1)))
    (K s.2) := by
  rintro ⟨k, s, t, d⟩ ⟨hk, d0, d1, t1, sum, s0, s1⟩
  dsimp only at *
  have bq : B62 (sq : Int) := by unfold B62; omega
  refine bcase_iff.mpr ⟨fun q => ?_, fun q => ?_⟩
  · have q := of_decide_eq_true q
    obtain ⟨j, rfl⟩ : ∃ j, k = j + 1 := ⟨k - 1, by
      rcases Nat.eq_zero_or_pos k with e | e
      · subst e
        have : t < 1 := t1
        omega
      · omega⟩
    have bt : B62 (t : Int) := by unfold B62; omega
    have m1 : d * (d + 1) ≤ 25 * 26 := Nat.mul_le_mul (by omega) (by omega)
    have m2 : (d + 2) * (d + 3) ≤ 27 * 28 := Nat.mul_le_mul (by omega) (by omega)
    have p1 : 0 < d * (d + 1) := Nat.mul_pos (by omega) (by omega)
    have p2 : 0 < (d + 2) * (d + 3) := Nat.mul_pos (by omega) (by omega)
    have w1 : IntKind.i64.wrap ((d : Int) * IntKind.i64.wrap ((d : Int) + 1)) = ((d * (d + 1) : Nat) : Int) := by
      rw [wrap_in (n := (d : Int) + 1) (by omega)]
      have : (d : Int) * (d + 1) = ((d * (d + 1) : Nat) : Int) := by simp
      rw [this, wrap_in (by omega)]
    have w2 : IntKind.i64.wrap (IntKind.i64.wrap ((d : Int) + 2) * IntKind.i64.wrap ((d : Int) + 3)) = (((d + 2) * (d + 3) : Nat) : Int) := by
      rw [wrap_in (n := (d : Int) + 2) (by omega), wrap_in (n := (d : Int) + 3) (by omega)]
      have : ((d : Int) + 2) * (d + 3) = (((d + 2) * (d + 3) : Nat) : Int) := by simp
      rw [this, wrap_in (by omega)]
    have h1 := hi_le t sq hq
    have h2 := hi_le (hi t sq / (d * (d + 1))) sq hq
    have l1 : hi t sq / (d * (d + 1)) ≤ hi t sq := Nat.div_le_self _ _
    have l2 : hi (hi t sq / (d * (d + 1))) sq / ((d + 2) * (d + 3)) ≤ hi (hi t sq / (d * (d + 1))) sq := Nat.div_le_self _ _
    have x1 : t < d * (d + 1) * ((d + 2) * (d + 3) * prod (d + 4) (2 * j)) := t1
    have x2 : hi t sq / (d * (d + 1)) < (d + 2) * (d + 3) * prod (d + 4) (2 * j) := Nat.div_lt_of_lt_mul (Nat.lt_of_le_of_lt h1 x1)
    have x3 : hi (hi t sq / (d * (d + 1))) sq / ((d + 2) * (d + 3)) < prod (d + 4) (2 * j) := Nat.div_lt_of_lt_mul (Nat.lt_of_le_of_lt h2 x2)
    have y : s + ((t : Int) - (((hi t sq / (d * (d + 1)) : Nat) : Int) - qk (2 * j) (hi (hi t sq / (d * (d + 1))) sq / ((d + 2) * (d + 3))) sq (d + 4))) = T := sum
    have c1 : (hiI (t : Int) (sq : Int)).tdiv ((d * (d + 1) : Nat) : Int) = ((hi t sq / (d * (d + 1)) : Nat) : Int) := by rw [hiI_cast, ← Int.ofNat_tdiv]
    have c2 : (hiI ((hi t sq / (d * (d + 1)) : Nat) : Int) (sq : Int)).tdiv (((d + 2) * (d + 3) : Nat) : Int) = ((hi (hi t sq / (d * (d + 1))) sq / ((d + 2) * (d + 3)) : Nat) : Int) := by rw [hiI_cast, ← Int.ofNat_tdiv]
    have f1 : hi t sq / (d * (d + 1)) ≤ t := Nat.le_trans l1 h1
    have f2 : hi (hi t sq / (d * (d + 1))) sq / ((d + 2) * (d + 3)) ≤ hi t sq / (d * (d + 1)) := Nat.le_trans l2 h2
    rw [w1, w2, c1]
    clear h1 h2 l1 l2 x1 x2 sum t1
    generalize hi t sq / (d * (d + 1)) = u1 at *
    rw [wrap_in (n := (u1 : Int)) (by omega), c2]
    generalize hi u1 sq / ((d + 2) * (d + 3)) = u2 at *
    rw [wrap_in (n := (u2 : Int)) (by omega)]
    refine ⟨⟨bt, bq⟩, bcase_iff.mpr ⟨fun z => absurd (eq_of_beq z) (by omega), fun _ => ⟨⟨by unfold B62; omega, bq⟩, bcase_iff.mpr ⟨fun z => absurd (eq_of_beq z) (by omega), fun _ => ⟨⟨j, s + t - u1, u2, d + 4⟩, ⟨rfl, rfl, ?_, ?_, trivial⟩, ⟨?_, ?_, ?_, ?_, ?_, ?_, ?_⟩, ?_⟩⟩⟩⟩⟩
    · rw [wrap_in (by omega)]; rfl
    · rw [wrap_in (n := s + (t : Int)) (by omega), wrap_in (by omega)]
    · dsimp only; omega
    · dsimp only; omega
    · dsimp only; omega
    · exact x3
    · dsimp only; omega
    · dsimp only; omega
    · dsimp only; omega
    · dsimp only; omega
  · have q := of_decide_eq_false q
    obtain rfl : t = 0 := by omega
    rw [qk_zero, Int.add_zero] at sum
    rw [sum]
    exact hK
theorem c_r6quick {r : Int} (c : Bool) (h0 : 0 ≤ r) (h1 : r ≤ 2700000) : Ans Tryz.prog Φ 121 [.int .i64 r, .bool c] (.int .i64 (qqI r c)) := by
  obtain ⟨r, rfl⟩ := Int.eq_ofNat_of_zero_le h0
  have hr : r ≤ 2700000 := by omega
  refine fn_by hst (s_Q1 hst) (vc_r6quick r (qqI r c) c (asq r) _) ?_
  have he : IntKind.i64.wrap (IntKind.i64.wrap (IntKind.i64.wrap ((r : Int) * 2620088056) * 2 ^ 9) + (IntKind.i64.wrap ((r : Int) * 658911831)).fdiv (2 ^ 22)) = ((ax r : Nat) : Int) := by
    rw [wrap_in (n := (r : Int) * 2620088056) (by omega), wrap_in (n := (r : Int) * 2620088056 * 2 ^ 9) (by omega), wrap_in (n := (r : Int) * 658911831) (by omega), Int.fdiv_eq_ediv_of_nonneg _ (by decide)]
    unfold ax U
    rw [wrap_in (by omega)]
    omega
  obtain ⟨_, hq⟩ := asq_err hr
  have hX : ax r ≤ 2 ^ 62 := by
    have u := (ax_err r).1
    have v := an_le hr
    have : (ax r : Rat) ≤ ((2 ^ 62 : Nat) : Rat) := by rw [Rat.natCast_pow, show ((2 : Nat) : Rat) = 2 from rfl]; grind
    exact Rat.natCast_le_natCast.mp this
  have bX : B62 ((ax r : Nat) : Int) := by unfold B62; omega
  have hs : hiI ((ax r : Nat) : Int) ((ax r : Nat) : Int) = ((asq r : Nat) : Int) := hiI_cast _ _
  rw [he, hs]
  have main := quick_main (T := qqI r c) hq (fun x => Value.int .i64 x = Value.int .i64 (qqI r c)) rfl
  have q0 : qqI (r : Int) true = qc r := by unfold qqI; rw [Int.toNat_natCast, cond_true]
  have q1 : qqI (r : Int) false = qs r := by unfold qqI; rw [Int.toNat_natCast, cond_false]
  have i0 : QkR (qqI (r : Int) true) (asq r) 6 0 4611686018427387904 1 := by
    refine ⟨by decide, by decide, by decide, by decide, ?_, by decide, by decide⟩
    rw [q0, show 2 * 6 = 11 + 1 from rfl, qk_more _ hq 11 _ _ (by decide), Int.zero_add]
    unfold qc
    rw [show (2 : Nat) ^ 62 = 4611686018427387904 from by decide]
  have i1 : QkR (qqI (r : Int) false) (asq r) 6 0 (ax r) 2 := by
    refine ⟨by decide, by decide, by decide, Nat.lt_of_le_of_lt hX (by decide), ?_, by decide, by omega⟩
    rw [q1, show 2 * 6 = 11 + 1 from rfl, qk_more _ hq 11 _ _ (Nat.lt_of_le_of_lt hX (by decide)), Int.zero_add]
    unfold qs
    rfl
  refine ⟨⟨bX, bX⟩, bcase_iff.mpr ⟨fun hc => ?_, fun hc => ?_⟩⟩
  · subst hc
    exact ⟨⟨6, 0, 4611686018427387904, 1⟩, ⟨rfl, rfl, rfl, rfl, trivial⟩, i0, main⟩
  · subst hc
    exact ⟨⟨6, 0, ax r, 2⟩, ⟨rfl, rfl, rfl, rfl, trivial⟩, i1, main⟩
end Go.Proofs.YtidhogcijghogaaGreatDoor
