/- The enclosure of the sine of an altitude meets that of all sines. -/
import Derived.Test.YtjdcicjhpegphaaGreatSqA
import Derived.Test.YtjdcicjhpegphaaGreatMrgH
namespace Go.Proofs.YtjdcicjhpegphaaGreat
open Go Go.Abs Go.RowKit Go.Sine
set_option linter.unusedVariables false
set_option linter.unusedSimpArgs false
theorem fl_far {m : Int} {T : Rat} (hF : Far T) (h : IsFl m T) : (m : Rat) + 1 / 2 ^ 23 ≤ 2 ^ 30 * T := by
  obtain ⟨h1, h2⟩ := h
  have a : (2 : Rat) ^ 62 * T = 2 ^ 32 * (2 ^ 30 * T) := by grind
  rcases hF m with q | q
  · rw [a] at q
    generalize (2 : Rat) ^ 30 * T = u at *
    have : (2 : Rat) ^ 32 = 4294967296 := rfl
    rw [this] at q
    grind
  · rw [a] at q
    generalize (2 : Rat) ^ 30 * T = u at *
    have e : (2 : Rat) ^ 32 = 4294967296 := rfl
    have f : (1 : Rat) / 2 ^ 23 = 1 / 8388608 := rfl
    rw [e] at q
    rw [f]
    grind
theorem le_add {m d S : Rat} (d0 : 0 ≤ d) (h : m + d ≤ S) : m ≤ S := by grind
theorem half_d {n d : Rat} (h : 536870912 * d ≤ n * d) (hd : d = 1 / 8388608) : 64 ≤ n * d := by subst hd; grind
theorem big_D {D : Rat} (h : D ≤ 1 + 1 / 18014398509481984) : 1152921504606846976 * D ≤ 1152921504606846976 + 64 := by grind
theorem fin_lin {m2 n2 S2 C2 q D2 d2 : Rat} (a : m2 ≤ S2) (b : n2 + 2 * q + d2 ≤ C2) (h : S2 + C2 = D2) (k : D2 ≤ 1152921504606846976 + 64) (n : 64 ≤ q) (d0 : 0 ≤ d2) : m2 + n2 < 1152921504606846976 + 1 := by grind
theorem sq_ring (n d : Rat) : (n + d) * (n + d) = n * n + 2 * (n * d) + d * d := by grind
theorem sc_ring (s c : Rat) : 1073741824 * s * (1073741824 * s) + 1073741824 * c * (1073741824 * c) = 1152921504606846976 * (s * s + c * c) := by grind
theorem sq_fin {m n d S C s c : Rat} (m0 : 0 ≤ m) (n1 : 536870912 ≤ n) (hd : d = 1 / 8388608) (h1 : m + d ≤ S) (h2 : n + d ≤ C) (eS : S = 1073741824 * s) (eC : C = 1073741824 * c) (hD : s * s + c * c ≤ 1 + 1 / 18014398509481984) : m * m + n * n < 1152921504606846976 + 1 := by
  have d0 : 0 ≤ d := by rw [hd]; decide +kernel
  have n0 : 0 ≤ n := Rat.le_trans (by decide +kernel) n1
  have mS := le_add d0 h1
  have a : m * m ≤ S * S := mul_mono mS mS m0 (Rat.le_trans m0 mS)
  have nd0 := nn_add n0 d0
  have b : (n + d) * (n + d) ≤ C * C := mul_mono h2 h2 nd0 (Rat.le_trans nd0 h2)
  rw [sq_ring] at b
  have nd : 536870912 * d ≤ n * d := Rat.mul_le_mul_of_nonneg_right n1 d0
  have f : S * S + C * C = 1152921504606846976 * (s * s + c * c) := by rw [eS, eC]; exact sc_ring s c
  exact fin_lin a b f (big_D hD) (half_d nd hd) (sq_nn d)
/-- Both rounded down. -/
theorem sq_low {p : Nat} (h : p ≤ 2700000) : sinP p * sinP p + sinP (5400000 - p) * sinP (5400000 - p) ≤ 1152921504606846976 := by
  by_cases p0 : p = 0
  · subst p0
    decide +kernel
  by_cases p1 : p = 1800000
  · subst p1
    decide +kernel
  by_cases p2 : p = 2700000
  · subst p2
    decide +kernel
  have e1 : exB (p : Int) = false := by unfold exB; simp; omega
  have c : ((5400000 - p : Nat) : Int) = 5400000 - (p : Int) := by omega
  have e2 : exB ((5400000 - p : Nat) : Int) = false := by rw [c]; unfold exB; simp; omega
  obtain ⟨F1, I1⟩ := far_tQ e1 (by omega)
  obtain ⟨F2, I2⟩ := far_tQ e2 (by omega)
  have g1 := fl_far F1 I1
  have g2 := fl_far F2 I2
  rw [c] at g2 I2
  have t1 : tQ p = sn (an p) := by unfold tQ; rw [if_pos (by omega)]
  have t2 : tQ (5400000 - p) = cs (an p) := by unfold tQ; rw [if_neg (by omega), show 5400000 - (5400000 - p) = p by omega]
  rw [t1] at g1
  rw [t2] at g2
  have r1 := sinP_range (p := p) (by omega) (by omega)
  have lo : 759250124 ≤ sinP (5400000 - (p : Int)) := by
    have := (sin_le (p := 2700000) (q := 5400000 - p) (by omega) (by omega) (by omega)).1
    have k : (759250124 : Int) ≤ sinP 2700000 := by decide +kernel
    omega
  have D := dd_one h
  unfold DD at D
  have z30 : (2 : Rat) ^ 30 = 1073741824 := rfl
  have z54 : (1 : Rat) / 2 ^ 54 = 1 / 18014398509481984 := rfl
  have z23 : (1 : Rat) / 2 ^ 23 = 1 / 8388608 := rfl
  rw [z30, z23] at g1 g2
  rw [z54] at D
  have m0 : (0 : Rat) ≤ ((sinP (p : Int) : Int) : Rat) := Rat.intCast_le_intCast.mpr r1.1.1
  have n1 : (536870912 : Rat) ≤ ((sinP (5400000 - (p : Int)) : Int) : Rat) := Rat.intCast_le_intCast (a := 536870912).mpr (by omega)
  have q := sq_fin m0 n1 rfl g1 g2 rfl rfl D
  have q2 : ((sinP (p : Int) * sinP p + sinP (5400000 - p) * sinP (5400000 - p) : Int) : Rat) < ((1152921504606846976 + 1 : Int) : Rat) := by
    rw [Rat.intCast_add, Rat.intCast_mul, Rat.intCast_mul, Rat.intCast_add]
    exact q
  have q3 := Rat.intCast_lt_intCast.mp q2
  omega
theorem sq_all {p : Int} (h0 : 0 ≤ p) (h1 : p ≤ 5400000) : sinP p * sinP p + sinP (5400000 - p) * sinP (5400000 - p) ≤ 1152921504606846976 := by
  obtain ⟨n, rfl⟩ := Int.eq_ofNat_of_zero_le h0
  by_cases h : n ≤ 2700000
  · exact sq_low h
  · have := sq_low (p := 5400000 - n) (by omega)
    rw [show ((5400000 - n : Nat) : Int) = 5400000 - (n : Int) by omega, show (5400000 : Int) - (5400000 - (n : Int)) = n by omega] at this
    show sinP (n : Int) * sinP n + _ ≤ _
    omega
/-- The sine of an angle, rounded towards zero. -/
def uZ (n : Int) : Int := if southB n then -sinP (quartI n) else sinP (quartI n)
theorem uZ_in (n : Int) : loI n ≤ uZ n ∧ uZ n ≤ hiE n := by
  have r := quart_range n
  have s := sinP_range r.1 r.2
  have u : sinP (quartI n) ≤ upI (quartI n) := by unfold upI; split <;> omega
  unfold uZ loI hiE
  split <;> omega
theorem quart_next (n : Int) : quartI (n + 5400000) = 5400000 - quartI n := by
  have m0 : 0 ≤ mI n ∧ mI n < 21600000 := by unfold mI; omega
  have m1 : mI (n + 5400000) = if mI n < 16200000 then mI n + 5400000 else mI n - 16200000 := by unfold mI; split <;> omega
  unfold quartI
  rw [m1]
  generalize mI n = m at *
  split <;> split <;> (try split) <;> (try split) <;> (try split) <;> omega
theorem uZ_sq (n : Int) : uZ n * uZ n + uZ (n + 5400000) * uZ (n + 5400000) ≤ 1152921504606846976 := by
  have r := quart_range n
  have a := sq_all r.1 r.2
  have sq : ∀ x, uZ x * uZ x = sinP (quartI x) * sinP (quartI x) := fun x => by
    unfold uZ
    split
    · rw [Int.neg_mul_neg]
    · rfl
  rw [sq, sq, quart_next]
  exact a
theorem uZ_one (n : Int) : N30 (uZ n) := by
  have r := quart_range n
  have s := (sinP_range r.1 r.2).1
  unfold uZ N30
  split <;> omega
/-- A sine and a cosine of an arc's first angle. -/
theorem in_sin {a b : Int} : encL a b ≤ uZ a ∧ uZ a ≤ encH a b := by
  have h := uZ_in a
  have r := uZ_one a
  unfold N30 at r
  unfold encL encH
  refine ⟨?_, ?_⟩ <;> split <;> omega
theorem in_cos {a b : Int} : cL a b ≤ uZ (a + 5400000) ∧ uZ (a + 5400000) ≤ cH a b := in_sin
theorem two_le (a b : Int) : -(a * a + b * b) ≤ 2 * (a * b) ∧ 2 * (a * b) ≤ a * a + b * b := by
  have h1 : 0 ≤ (a - b) * (a - b) := by
    rcases Int.le_total 0 (a - b) with h | h
    · exact Int.mul_nonneg h h
    · exact Int.mul_nonneg_of_nonpos_of_nonpos h h
  have h2 : 0 ≤ (a + b) * (a + b) := by
    rcases Int.le_total 0 (a + b) with h | h
    · exact Int.mul_nonneg h h
    · exact Int.mul_nonneg_of_nonpos_of_nonpos h h
  have e1 : (a - b) * (a - b) = a * a - 2 * (a * b) + b * b := by grind
  have e2 : (a + b) * (a + b) = a * a + 2 * (a * b) + b * b := by grind
  omega
/-- Products within intervals. -/
theorem lin_lo {x c d w : Int} (h1 : c ≤ w) (h2 : w ≤ d) : min (x * c) (x * d) ≤ x * w ∧ x * w ≤ max (x * c) (x * d) := by
  rcases Int.le_total 0 x with h | h
  · have a := Int.mul_le_mul_of_nonneg_left h1 h
    have b := Int.mul_le_mul_of_nonneg_left h2 h
    omega
  · have a := Int.mul_le_mul_of_nonpos_left h h1
    have b := Int.mul_le_mul_of_nonpos_left h h2
    omega
theorem lin_both {a b c d k x w : Int} (hk : 0 ≤ k) (h1 : k * a ≤ x) (h2 : x ≤ k * b) (h3 : c ≤ w) (h4 : w ≤ d) : k * mnP a b c d ≤ x * w ∧ x * w ≤ k * mxP a b c d := by
  have e1 := lin_lo (x := x) h3 h4
  have e2 := lin_lo (x := c) h1 h2
  have e3 := lin_lo (x := d) h1 h2
  have ca : c * (k * a) = k * (a * c) := by grind
  have cb : c * (k * b) = k * (b * c) := by grind
  have da : d * (k * a) = k * (a * d) := by grind
  have db : d * (k * b) = k * (b * d) := by grind
  have xc : x * c = c * x := Int.mul_comm _ _
  have xd : x * d = d * x := Int.mul_comm _ _
  rw [ca, cb] at e2
  rw [da, db] at e3
  have mn : ∀ y, y = a * c ∨ y = a * d ∨ y = b * c ∨ y = b * d → mnP a b c d ≤ y ∧ y ≤ mxP a b c d := fun y hy => by
    unfold mnP mxP
    omega
  have k1 := Int.mul_le_mul_of_nonneg_left (mn (a * c) (.inl rfl)).1 hk
  have k2 := Int.mul_le_mul_of_nonneg_left (mn (a * d) (.inr (.inl rfl))).1 hk
  have k3 := Int.mul_le_mul_of_nonneg_left (mn (b * c) (.inr (.inr (.inl rfl)))).1 hk
  have k4 := Int.mul_le_mul_of_nonneg_left (mn (b * d) (.inr (.inr (.inr rfl)))).1 hk
  have l1 := Int.mul_le_mul_of_nonneg_left (mn (a * c) (.inl rfl)).2 hk
  have l2 := Int.mul_le_mul_of_nonneg_left (mn (a * d) (.inr (.inl rfl))).2 hk
  have l3 := Int.mul_le_mul_of_nonneg_left (mn (b * c) (.inr (.inr (.inl rfl)))).2 hk
  have l4 := Int.mul_le_mul_of_nonneg_left (mn (b * d) (.inr (.inr (.inr rfl)))).2 hk
  omega
theorem mu_in {a b c d k x w : Int} (hk : 0 ≤ k) (h1 : k * a ≤ x) (h2 : x ≤ k * b) (h3 : c ≤ w) (h4 : w ≤ d) : k * (1073741824 * muL a b c d) ≤ x * w ∧ x * w ≤ k * (1073741824 * muH a b c d) := by
  have h := lin_both hk h1 h2 h3 h4
  have e1 : 1073741824 * muL a b c d ≤ mnP a b c d := by unfold muL; omega
  have e2 : mxP a b c d ≤ 1073741824 * muH a b c d := by unfold muH; omega
  have k1 := Int.mul_le_mul_of_nonneg_left e1 hk
  have k2 := Int.mul_le_mul_of_nonneg_left e2 hk
  omega
theorem abs_w {x w : Int} (h : N30 w) : -(1073741824 * (x.natAbs : Int)) ≤ x * w ∧ x * w ≤ 1073741824 * (x.natAbs : Int) := by
  obtain ⟨h1, h2⟩ := h
  have e := lin_lo (x := x) h1 h2
  omega
theorem meets_all : MeetsAll := by
  intro l l' d d' h h' v
  have s1 := @in_sin l l'
  have c1 := @in_cos l l'
  have s2 := @in_sin d d'
  have c2 := @in_cos d d'
  have c3 := @in_cos h h'
  have A := mu_in (k := 1) (a := encL l l') (b := encH l l') (c := encL d d') (d := encH d d') (x := uZ l) (w := uZ d) (by decide) (by omega) (by omega) s2.1 s2.2
  have B := mu_in (k := 1) (a := cL l l') (b := cH l l') (c := cL d d') (d := cH d d') (x := uZ (l + 5400000)) (w := uZ (d + 5400000)) (by decide) (by omega) (by omega) c2.1 c2.2
  rw [Int.one_mul, Int.one_mul] at A B
  have C := mu_in (k := 1073741824) (x := uZ (l + 5400000) * uZ (d + 5400000)) (w := uZ (h + 5400000)) (by decide) B.1 B.2 c3.1 c3.2
  have q1 := uZ_sq l
  have q2 := uZ_sq d
  have t1 := two_le (uZ l) (uZ d)
  have t2 := two_le (uZ (l + 5400000)) (uZ (d + 5400000))
  have w := abs_w (x := uZ (l + 5400000) * uZ (d + 5400000)) (uZ_one (h + 5400000))
  unfold MeT sAl addP mulP sinT cosT
  dsimp only
  generalize uZ l * uZ d = P at *
  generalize uZ (l + 5400000) * uZ (d + 5400000) = Q at *
  generalize Q * uZ (h + 5400000) = R at *
  generalize muL (encL l l') (encH l l') (encL d d') (encH d d') = x1 at *
  generalize muH (encL l l') (encH l l') (encL d d') (encH d d') = x2 at *
  generalize muL (muL (cL l l') (cH l l') (cL d d') (cH d d')) (muH (cL l l') (cH l l') (cL d d') (cH d d')) (cL h h') (cH h h') = y1 at *
  generalize muH (muL (cL l l') (cH l l') (cL d d') (cH d d')) (muH (cL l l') (cH l l') (cL d d') (cH d d')) (cL h h') (cH h h') = y2 at *
  omega
end Go.Proofs.YtjdcicjhpegphaaGreat
