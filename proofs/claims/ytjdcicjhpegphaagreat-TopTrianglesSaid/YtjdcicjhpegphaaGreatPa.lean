/- The sines and cosines that directions are held against, and the real ones: how near they are. The program's enclosures hold the real numbers: sines, cosines, haversines, sums, products, quotients, roots. The program's enclosures hold the real numbers: quotients, roots, angles of haversines. The arc of the directions of a box holds the real directions, but for an eighth of a unit. TopTriangles, the plain law: what the functions answer for three points obeys the laws of spherical triangles. No program is in sight here. TopTriangles, the plain law: the excess, and all together. No program is in sight here. -/
import Derived.Test.YtjdcicjhpegphaaGreatGg
import Derived.Test.YtjdcicjhpegphaaGreatRb
import Derived.Test.YtjdcicjhpegphaaGreatRc
set_option linter.unusedSimpArgs false
set_option linter.unusedVariables false
namespace Go.Proofs.YtjdcicjhpegphaaGreat
open Go.Sine Go.Re
def wT : Rat := 2 ^ 192
theorem W3_T : ((W3 : Int) : Rat) = wT := by unfold wT W3; decide +kernel
theorem wT_big : (1000 : Rat) ≤ wT := by unfold wT; decide +kernel
theorem icl {a b : Int} (h : a ≤ b) : (a : Rat) ≤ (b : Rat) := Rat.intCast_le_intCast.mpr h
theorem tm_floor {t Q : Int} (t0 : 0 ≤ t) (t1 : t ≤ W3) (q0 : 0 ≤ Q) (q1 : Q ≤ W3) : tmI t Q = t * Q / W3 := by
  unfold tmI
  apply Int.emod_eq_of_lt
  · exact Int.ediv_nonneg (Int.mul_nonneg t0 q0) (by decide)
  · have h1 : t * Q / W3 ≤ t := by
      have : t * Q ≤ t * W3 := Int.mul_le_mul_of_nonneg_left q1 t0
      exact Int.ediv_le_of_le_mul (by decide) this
    have : W3 < W4 := by decide
    omega
theorem div_both (p d : Int) (hd : 0 < d) : d * (p / d) ≤ p ∧ p < d * (p / d) + d := ⟨Int.mul_ediv_self_le (by omega), Int.lt_mul_ediv_self_add hd⟩
theorem e_two (a : Nat) (x : Rat) : (((a : Rat) + 1) * ((a : Rat) + 2)) * e (a + 2) x = x * x * e a x := by
  have h1 := e_succ a x
  have h2 := e_succ (a + 1) x
  have c : ((a + 1 : Nat) : Rat) = (a : Rat) + 1 := by simp
  rw [c] at h2
  have : (((a : Rat) + 1) * ((a : Rat) + 2)) * e (a + 2) x = ((a : Rat) + 1) * (((a : Rat) + 1 + 1) * e (a + 1 + 1) x) := by grind
  rw [this, h2]
  grind
theorem ser_term {x : Rat} (hx : 0 ≤ x) (h1 : x ≤ 1) {t Q : Int} {a : Nat} (t0 : 0 ≤ t) (t1 : t ≤ W3) (q0 : 0 ≤ Q) (q1 : Q ≤ W3) (ht : -7 ≤ (t : Rat) - wT * e a x ∧ (t : Rat) - wT * e a x ≤ 7) (hq : -2 ≤ (Q : Rat) - wT * (x * x) ∧ (Q : Rat) - wT * (x * x) ≤ 2) :
    (0 ≤ tmI t Q / (((a : Int) + 1) * ((a : Int) + 2)) ∧ tmI t Q / (((a : Int) + 1) * ((a : Int) + 2)) ≤ t) ∧ (-7 ≤ ((tmI t Q / (((a : Int) + 1) * ((a : Int) + 2)) : Int) : Rat) - wT * e (a + 2) x ∧ ((tmI t Q / (((a : Int) + 1) * ((a : Int) + 2)) : Int) : Rat) - wT * e (a + 2) x ≤ 7) := by
  have ml := tm_le t0 q0 q1
  have dp : (2 : Int) ≤ ((a : Int) + 1) * ((a : Int) + 2) := by
    have h1 : (1 : Int) ≤ (a : Int) + 1 := by omega
    have h2 : (2 : Int) ≤ (a : Int) + 2 := by omega
    have := Int.mul_le_mul h1 h2 (by decide) (by omega)
    omega
  have fl := tm_floor t0 t1 q0 q1
  have b1 := div_both (t * Q) W3 (by decide)
  have b2 := div_both (tmI t Q) (((a : Int) + 1) * ((a : Int) + 2)) (by omega)
  rw [← fl] at b1
  have ed := e_two a x
  have n0 := e_nonneg hx a
  have n1 := e_le_one hx h1 a
  have n2 := e_nonneg hx (a + 2)
  refine ⟨⟨Int.ediv_nonneg ml.1 (by omega), ?_⟩, ?_⟩
  · exact Int.le_trans (Int.ediv_le_self _ ml.1) ml.2
  have cd : (((((a : Int) + 1) * ((a : Int) + 2) : Int)) : Rat) = ((a : Rat) + 1) * ((a : Rat) + 2) := by
    rw [Rat.intCast_mul, Rat.intCast_add, Rat.intCast_add]
    rfl
  have dR : (2 : Rat) ≤ ((a : Rat) + 1) * ((a : Rat) + 2) := by
    have := icl dp
    rw [cd] at this
    exact this
  have c1 := icl b1.1
  have c2 := icl (Int.le_of_lt b1.2)
  have c3 := icl b2.1
  have c4 := icl (Int.le_of_lt b2.2)
  rw [Rat.intCast_mul, Rat.intCast_mul, W3_T] at c1
  rw [Rat.intCast_add, Rat.intCast_mul, Rat.intCast_mul, W3_T] at c2
  rw [Rat.intCast_mul, cd] at c3
  rw [Rat.intCast_add, Rat.intCast_mul, cd] at c4
  generalize tmI t Q / (((a : Int) + 1) * ((a : Int) + 2)) = y at *
  generalize tmI t Q = p at *
  generalize ((a : Rat) + 1) * ((a : Rat) + 2) = d at *
  generalize (t : Rat) = T at *
  generalize (Q : Rat) = R at *
  generalize (p : Rat) = P at *
  generalize (y : Rat) = Y at *
  generalize e (a + 2) x = f at *
  generalize e a x = g at *
  have wb := wT_big
  generalize wT = w at *
  clear b1 b2 fl dp ml t0 t1 q0 q1
  have xx : 0 ≤ x * x ∧ x * x ≤ 1 := by
    have := Rat.mul_nonneg hx hx
    have := Rat.mul_nonneg hx (show 0 ≤ 1 - x by grind)
    constructor <;> grind
  have m1 := small_mul (a := T - w * g) (B := 7) (d := R - w * (x * x)) (η := 2) (by grind) (by grind) (by grind) (by grind)
  have m2 := mul_abs (a := R - w * (x * x)) (d := 2) (t := g) (by grind) (by grind) n0 n1 (by decide)
  have m3 := mul_abs (a := T - w * g) (d := 7) (t := x * x) (by grind) (by grind) xx.1 xx.2 (by decide)
  have id1 : T * R = w * (w * (g * (x * x)) + (R - w * (x * x)) * g + (T - w * g) * (x * x)) + (T - w * g) * (R - w * (x * x)) := by grind
  generalize hA : (R - w * (x * x)) * g = A at *
  generalize hB : (T - w * g) * (x * x) = B at *
  generalize hC : (T - w * g) * (R - w * (x * x)) = C at *
  have q1 := Rat.mul_le_mul_of_nonneg_left (show A + B ≤ 9 by grind) (show 0 ≤ w by grind)
  have q2 := Rat.mul_le_mul_of_nonneg_left (show -9 ≤ A + B by grind) (show 0 ≤ w by grind)
  generalize hD : g * (x * x) = D at *
  have id2 : T * R = w * (w * D) + w * (A + B) + C := by rw [id1]; grind
  clear id1 hA hB hC
  have u1 : w * P ≤ w * (w * D + 9 + 1) := by
    have : w * (w * D + 9 + 1) = w * (w * D) + w * 9 + w := by grind
    grind
  have u2 : w * (w * D - 9 - 1 - 1) ≤ w * P := by
    have : w * (w * D - 9 - 1 - 1) = w * (w * D) - w * 9 - w - w := by grind
    grind
  have u1 := Rat.le_of_mul_le_mul_left u1 (show 0 < w by grind)
  have u2 := Rat.le_of_mul_le_mul_left u2 (show 0 < w by grind)
  have k : d * (w * f) = w * D := by
    have : d * (w * f) = w * (d * f) := by grind
    rw [this, ed, ← hD]
    grind
  have v1 : d * (Y - w * f) ≤ d * 5 := by grind
  have v2 : d * (-7) ≤ d * (Y - w * f) := by grind
  have v1 := Rat.le_of_mul_le_mul_left v1 (show 0 < d by grind)
  have v2 := Rat.le_of_mul_le_mul_left v2 (show 0 < d by grind)
  constructor <;> grind
theorem ser_near {x : Rat} (hx : 0 ≤ x) (h1 : x ≤ 1) {Q : Int} (q0 : 0 ≤ Q) (q1 : Q ≤ W3) (hq : -2 ≤ (Q : Rat) - wT * (x * x) ∧ (Q : Rat) - wT * (x * x) ≤ 2) :
    ∀ (k : Nat) (s t : Int) (a : Nat) (m : Bool), 0 ≤ t → t ≤ W3 → (-7 ≤ (t : Rat) - wT * e a x ∧ (t : Rat) - wT * e a x ≤ 7) → (m = true → t ≤ s ∧ s ≤ 2 * W3) → (m = false → 0 ≤ s ∧ s + t ≤ 2 * W3) →
      -(7 * (k : Rat) + 14) ≤ (serI Q k s t a m : Rat) - ((s : Rat) + (if m = true then -1 else 1) * (wT * F cg (a + 2) (2 * k) x)) ∧ (serI Q k s t a m : Rat) - ((s : Rat) + (if m = true then -1 else 1) * (wT * F cg (a + 2) (2 * k) x)) ≤ 7 * (k : Rat) + 14
  | 0, s, t, a, m, _, _, _, _, _ => by
    have z : ((0 : Nat) : Rat) = 0 := rfl
    have e0 : F cg (a + 2) (2 * 0) x = 0 := rfl
    have e1 : serI Q 0 s t a m = s := rfl
    rw [z, e0, e1]
    constructor <;> grind
  | k + 1, s, t, a, m, t0, t1, ht, hm, hf => by
    have hc : ((k + 1 : Nat) : Rat) = (k : Rat) + 1 := by simp
    have kn : (0 : Rat) ≤ (k : Rat) := Rat.natCast_nonneg
    have F2 : F cg (a + 2) (2 * (k + 1)) x = e (a + 2) x - F cg (a + 2 + 2) (2 * k) x := F_cg (a + 2) (2 * k) x
    have wb := wT_big
    by_cases z : t = 0
    · have e1 : serI Q (k + 1) s t a m = s := by rw [z]; exact ser_zero Q _ s a m
      rw [e1]
      have two := (F_two hx h1 (2 * (k + 1)) (a + 2)).1
      have hh := e_half hx h1 a
      have z0 : ((0 : Int) : Rat) = 0 := rfl
      rw [z, z0] at ht
      rw [hc]
      generalize F cg (a + 2) (2 * (k + 1)) x = G at *
      have p1 := Rat.mul_le_mul_of_nonneg_left two.1 (show 0 ≤ wT by grind)
      have p2 := Rat.mul_le_mul_of_nonneg_left two.2 (show 0 ≤ wT by grind)
      have p3 := Rat.mul_le_mul_of_nonneg_left hh (show 0 ≤ wT by grind)
      generalize wT = w at *
      generalize e a x = g at *
      generalize e (a + 2) x = f at *
      clear F2 hm hf
      cases m
      · simp only [Bool.false_eq_true, if_false]
        constructor <;> grind
      · simp only [if_true]
        constructor <;> grind
    · obtain ⟨⟨y0, y1⟩, hy⟩ := ser_term hx h1 t0 t1 q0 q1 ht hq
      have e1 : serI Q (k + 1) s t a m = serI Q k (if m = true then (s - tmI t Q / (((a : Int) + 1) * ((a : Int) + 2))) % W4 else (s + tmI t Q / (((a : Int) + 1) * ((a : Int) + 2))) % W4) (tmI t Q / (((a : Int) + 1) * ((a : Int) + 2))) ((a : Int) + 2) (!m) := by
        show (if t = 0 then s else _) = _
        rw [if_neg z]
      rw [e1]
      clear e1
      generalize tmI t Q / (((a : Int) + 1) * ((a : Int) + 2)) = y at *
      rw [show ((a : Int) + 2) = ((a + 2 : Nat) : Int) by omega]
      have w34 : 2 * W3 < W4 := by decide
      cases m with
      | true =>
        obtain ⟨m1, m2⟩ := hm rfl
        rw [if_pos rfl, Int.emod_eq_of_lt (by omega) (by omega)]
        have ih := ser_near hx h1 q0 q1 hq k (s - y) y (a + 2) false y0 (by omega) hy (fun h => by cases h) (fun _ => ⟨by omega, by omega⟩)
        simp only [Bool.not_true, Bool.false_eq_true, if_false, if_true] at ih ⊢
        rw [Rat.intCast_sub] at ih
        rw [hc, F2]
        generalize F cg (a + 2 + 2) (2 * k) x = G at *
        generalize (serI Q k (s - y) y ((a + 2 : Nat) : Int) false : Rat) = R at *
        generalize e (a + 2) x = f at *
        generalize wT = w at *
        constructor <;> grind
      | false =>
        obtain ⟨m1, m2⟩ := hf rfl
        rw [if_neg (by decide), Int.emod_eq_of_lt (by omega) (by omega)]
        have ih := ser_near hx h1 q0 q1 hq k (s + y) y (a + 2) true y0 (by omega) hy (fun _ => ⟨by omega, by omega⟩) (fun h => by cases h)
        simp only [Bool.not_false, Bool.false_eq_true, if_false, if_true] at ih ⊢
        rw [Rat.intCast_add] at ih
        rw [hc, F2]
        generalize F cg (a + 2 + 2) (2 * k) x = G at *
        generalize (serI Q k (s + y) y ((a + 2 : Nat) : Int) true : Rat) = R at *
        generalize e (a + 2) x = f at *
        generalize wT = w at *
        constructor <;> grind
theorem ang_lin {R P n : Rat} (r1 : P * 2 ^ 108 ≤ R + 2) (r2 : R ≤ P * 2 ^ 108 + n * 2 ^ 108) (nn : n ≤ 2700000) (n0 : 0 ≤ n) : -1 ≤ 2 ^ 60 * (R / 2 ^ 192 - P / 2 ^ 84) ∧ 2 ^ 60 * (R / 2 ^ 192 - P / 2 ^ 84) ≤ 1 := by
  constructor <;> grind
theorem angC_near {n : Nat} (h : n ≤ 2700000) : (0 ≤ angC n ∧ angC n ≤ W3) ∧ (-(1 : Rat) ≤ 2 ^ 60 * ((angC n : Rat) / wT - an n) ∧ 2 ^ 60 * ((angC n : Rat) / wT - an n) ≤ 1) := by
  have hm : angC n = piC * n / 10800000 := by
    unfold angC
    congr 1
    apply Int.emod_eq_of_lt
    · exact Int.mul_nonneg (by decide) (by omega)
    · have : piC * n ≤ piC * 2700000 := Int.mul_le_mul_of_nonneg_left (by omega) (by decide)
      have : piC * 2700000 < W4 := by decide +kernel
      omega
  have b := div_both (piC * n) 10800000 (by decide)
  rw [← hm] at b
  have p0 : 0 ≤ piC * n := Int.mul_nonneg (by decide) (by omega)
  have pm : piC * n ≤ piC * 2700000 := Int.mul_le_mul_of_nonneg_left (by omega) (by decide)
  have pw : piC * 2700000 ≤ 10800000 * W3 := by decide +kernel
  refine ⟨⟨by omega, by omega⟩, ?_⟩
  have p1 : (U : Int) * 10800000 * 2 ^ 108 ≤ piC + 1 := by decide +kernel
  have p2 : piC ≤ ((U : Int) + 1) * 10800000 * 2 ^ 108 := by decide +kernel
  have n1 : (U : Int) * 10800000 * 2 ^ 108 * n ≤ (piC + 1) * n := Int.mul_le_mul_of_nonneg_right p1 (by omega)
  have n2 : piC * n ≤ ((U : Int) + 1) * 10800000 * 2 ^ 108 * n := Int.mul_le_mul_of_nonneg_right p2 (by omega)
  have r1 : (n : Int) * U * 2 ^ 108 ≤ angC n + 2 := by
    have : (10800000 : Int) * (n * U * 2 ^ 108) ≤ 10800000 * (angC n + 2) := by
      have e : (10800000 : Int) * (n * U * 2 ^ 108) = U * 10800000 * 2 ^ 108 * n := by grind
      have e2 : (piC + 1) * n = piC * n + n := by grind
      omega
    omega
  have r2 : angC n ≤ (n : Int) * U * 2 ^ 108 + n * 2 ^ 108 := by
    have : (10800000 : Int) * angC n ≤ 10800000 * ((n : Int) * U * 2 ^ 108 + n * 2 ^ 108) := by
      have : (10800000 : Int) * ((n : Int) * U * 2 ^ 108 + n * 2 ^ 108) = (U + 1) * 10800000 * 2 ^ 108 * n := by grind
      omega
    omega
  have r1 := icl r1
  have r2 := icl r2
  have nn : (n : Rat) ≤ 2700000 := by have := Rat.natCast_le_natCast.mpr h; exact this
  have n0 : (0 : Rat) ≤ n := Rat.natCast_nonneg
  have z2 : ((2 : Int) : Rat) = 2 := rfl
  simp only [Rat.intCast_add, Rat.intCast_mul, Rat.intCast_pow, z2] at r1 r2
  have cn : (((n : Nat) : Int) : Rat) = (n : Rat) := rfl
  have cu : (((U : Nat) : Int) : Rat) = (U : Rat) := rfl
  rw [cn, cu] at r1 r2
  have ha : an n = (n : Rat) * U / 2 ^ 84 := by unfold an; rw [Rat.natCast_mul]
  rw [ha]
  unfold wT
  exact ang_lin r1 r2 nn n0
theorem small_sum {A B C D : Rat} (h1 : -(7 * 300 + 14) ≤ A ∧ A ≤ 7 * 300 + 14) (h2 : -(4 * B) ≤ C ∧ C ≤ 4 * B) (hB : 2 ^ 250 * B ≤ 1) (h3 : -(8 * (1 / 2 ^ 60) + 1 / 2 ^ 70) ≤ D ∧ D ≤ 8 * (1 / 2 ^ 60) + 1 / 2 ^ 70) : -(1 / 2 ^ 56) ≤ A / 2 ^ 192 + C + D ∧ A / 2 ^ 192 + C + D ≤ 1 / 2 ^ 56 := by
  constructor <;> grind
theorem sin0_near {n : Nat} (h : n ≤ 2700000) : (-(1 / 2 ^ 56) ≤ (sinC0 n : Rat) / wT - sn (an n) ∧ (sinC0 n : Rat) / wT - sn (an n) ≤ 1 / 2 ^ 56) ∧ (-(1 / 2 ^ 56) ≤ (cosC0 n : Rat) / wT - cs (an n) ∧ (cosC0 n : Rat) / wT - cs (an n) ≤ 1 / 2 ^ 56) := by
  obtain ⟨⟨T0, T1⟩, hx⟩ := angC_near h
  unfold sinC0 cosC0
  generalize hT : angC (n : Int) = T at *
  have wb := wT_big
  have wp : 0 < wT := by grind
  have cT := icl T1
  have cT0 := icl T0
  have z0 : ((0 : Int) : Rat) = 0 := rfl
  rw [W3_T] at cT
  rw [z0] at cT0
  have ex : (T : Rat) = wT * ((T : Rat) / wT) := by rw [Rat.mul_comm, Rat.div_mul_cancel (by grind)]
  generalize hxx : (T : Rat) / wT = x at *
  have x0 : 0 ≤ x := Rat.le_of_mul_le_mul_left (by rw [← ex]; grind) wp
  have x1 : x ≤ 1 := Rat.le_of_mul_le_mul_left (by rw [← ex]; grind) wp
  have fl := tm_floor T0 T1 T0 T1
  have tl := tm_le T0 T0 T1
  have b := div_both (T * T) W3 (by decide)
  rw [← fl] at b
  have c1 := icl b.1
  have c2 := icl (Int.le_of_lt b.2)
  rw [Rat.intCast_mul, Rat.intCast_mul, W3_T] at c1
  rw [Rat.intCast_add, Rat.intCast_mul, Rat.intCast_mul, W3_T] at c2
  generalize tmI T T = Q at *
  have hq : -2 ≤ (Q : Rat) - wT * (x * x) ∧ (Q : Rat) - wT * (x * x) ≤ 2 := by
    rw [ex] at c1 c2
    have d1 : wT * (Q : Rat) ≤ wT * (wT * (x * x)) := by grind
    have d2 : wT * (wT * (x * x)) ≤ wT * ((Q : Rat) + 1) := by grind
    have d1 := Rat.le_of_mul_le_mul_left d1 wp
    have d2 := Rat.le_of_mul_le_mul_left d2 wp
    constructor <;> grind
  have q1 : Q ≤ W3 := by omega
  have w3p : (0 : Int) < W3 := by decide
  have S := ser_near x0 x1 tl.1 q1 hq 300 T T 1 true T0 T1 (by rw [e_one]; grind) (fun _ => ⟨Int.le_refl _, by omega⟩) (fun e => by cases e)
  have C := ser_near x0 x1 tl.1 q1 hq 300 W3 W3 0 true (by decide) (Int.le_refl _) (by rw [e_zero, W3_T]; grind) (fun _ => ⟨Int.le_refl _, by decide⟩) (fun e => by cases e)
  have F1 : F cg 1 602 x = e 1 x - F cg (1 + 2) (2 * 300) x := F_cg 1 600 x
  have F0 : F cg 0 602 x = e 0 x - F cg (0 + 2) (2 * 300) x := F_cg 0 600 x
  rw [e_one] at F1
  rw [e_zero] at F0
  have L1 := F_close x0 x1 38 1 526 4
  have L0 := F_close x0 x1 38 0 526 5
  rw [show 2 * 38 + 526 = 602 from rfl, show 2 * 38 + 4 = 80 from rfl, show 1 + 2 * 38 = 76 + 1 from rfl, ← sn_eq] at L1
  rw [show 2 * 38 + 526 = 602 from rfl, show 2 * 38 + 5 = 81 from rfl, show 0 + 2 * 38 = 76 + 0 from rfl] at L0
  have L0 : -(4 * e (76 + 0) x) ≤ F cg 0 602 x - cs x ∧ F cg 0 602 x - cs x ≤ 4 * e (76 + 0) x := L0
  have t1 := e_76 x0 x1 1
  have t0 := e_76 x0 x1 0
  have l := an_le h
  have an0 := an_nonneg n
  have near : -(1 / 2 ^ 60) ≤ x - an n ∧ x - an n ≤ 1 / 2 ^ 60 := by
    generalize an n = y at *
    clear S C F1 F0 L1 L0 t1 t0 hq c1 c2 ex cT cT0
    constructor <;> grind
  have P1 := lip_any (f := sn) (fun x y a b c => sn_lip a b c) x0 an0 x1 (by grind) near
  have P0 := lip_any (f := cs) (fun x y a b c => cs_lip a b c) x0 an0 x1 (by grind) near
  rw [if_pos rfl] at S C
  have k300 : ((300 : Nat) : Rat) = 300 := rfl
  rw [k300] at S C
  rw [W3_T] at C
  have dv : ∀ a : Rat, (wT * a) / wT = a := fun a => by rw [Rat.mul_comm, Rat.mul_div_cancel (by grind)]
  constructor
  · have r := small_sum S L1 t1 P1
    have e2 : (serI Q 300 T T 1 true : Rat) / wT - sn (an n) = ((serI Q 300 T T 1 true : Rat) - ((T : Rat) + -1 * (wT * F cg (1 + 2) (2 * 300) x))) / 2 ^ 192 + (F cg 1 602 x - sn x) + (sn x - sn (an n)) := by
      rw [F1]
      have : ((T : Rat) + -1 * (wT * F cg (1 + 2) (2 * 300) x)) = wT * (x - F cg (1 + 2) (2 * 300) x) := by rw [ex]; grind
      rw [this]
      have d := dv (x - F cg (1 + 2) (2 * 300) x)
      have : (2 : Rat) ^ 192 = wT := rfl
      rw [this]
      generalize F cg (1 + 2) (2 * 300) x = G at *
      generalize (serI Q 300 T T 1 true : Rat) = R at *
      rw [Rat.sub_eq_add_neg R, Rat.div_def, Rat.div_def, Rat.add_mul, Rat.neg_mul]
      rw [Rat.div_def] at d
      rw [d]
      grind
    rw [e2]
    exact r
  · have r := small_sum C L0 t0 P0
    have e2 : (serI Q 300 W3 W3 0 true : Rat) / wT - cs (an n) = ((serI Q 300 W3 W3 0 true : Rat) - (wT + -1 * (wT * F cg (0 + 2) (2 * 300) x))) / 2 ^ 192 + (F cg 0 602 x - cs x) + (cs x - cs (an n)) := by
      rw [F0]
      have : (wT + -1 * (wT * F cg (0 + 2) (2 * 300) x)) = wT * (1 - F cg (0 + 2) (2 * 300) x) := by grind
      rw [this]
      have d := dv (1 - F cg (0 + 2) (2 * 300) x)
      have : (2 : Rat) ^ 192 = wT := rfl
      rw [this]
      generalize F cg (0 + 2) (2 * 300) x = G at *
      generalize (serI Q 300 W3 W3 0 true : Rat) = R at *
      rw [Rat.sub_eq_add_neg R, Rat.div_def, Rat.div_def, Rat.add_mul, Rat.neg_mul]
      rw [Rat.div_def] at d
      rw [d]
      grind
    rw [e2]
    exact r
noncomputable def wr : Rl := rat wT
theorem wr_pos : 0 < wr := rat_pos.mpr (by unfold wT; decide +kernel)
noncomputable def d53 : Rl := rat (1 / 2 ^ 53)
theorem rat_over (m : Int) : ri m = wr * rat ((m : Rat) / wT) := by
  unfold wr ri
  rw [← rat_mul]
  congr 1
  have wb := wT_big
  rw [Rat.mul_comm, Rat.div_mul_cancel (by grind)]
theorem circ_near {k : Int} (h0 : 0 ≤ k) (h1 : k ≤ 5400000) : (∃ s, ri (sinC k) = wr * s ∧ -d53 ≤ s - Sn (ri k) ∧ s - Sn (ri k) ≤ d53) ∧ (∃ c, ri (cosC k) = wr * c ∧ -d53 ≤ c - Cn (ri k) ∧ c - Cn (ri k) ≤ d53) := by
  have dd : rat (1 / 2 ^ 56) + rat (1 / 2 ^ 54) ≤ d53 := by
    unfold d53
    rw [← rat_add]
    exact rat_le.mpr (by decide +kernel)
  have key : ∀ n : Nat, n ≤ 2700000 → (∃ s, ri (sinC0 n) = wr * s ∧ -d53 ≤ s - Sn (n : Rl) ∧ s - Sn (n : Rl) ≤ d53) ∧ (∃ c, ri (cosC0 n) = wr * c ∧ -d53 ≤ c - Cn (n : Rl) ∧ c - Cn (n : Rl) ≤ d53) := fun n hn => by
    obtain ⟨a, b⟩ := sin0_near hn
    have r := sum_near hn
    have a := small2 a
    have b := small2 b
    rw [rat_sub] at a b
    exact ⟨⟨_, rat_over _, by grind, by grind⟩, ⟨_, rat_over _, by grind, by grind⟩⟩
  unfold sinC cosC
  by_cases c : k > 2700000
  · rw [if_pos c, if_pos c]
    obtain ⟨n, hn⟩ := Int.eq_ofNat_of_zero_le (a := 5400000 - k) (by omega)
    have h := key n (by omega)
    rw [hn]
    have e : (n : Rl) = 5400000 - ri k := by
      rw [← ri_nat, ← hn, ri_sub]
      rfl
    rw [e, Sn_Qsub, Cn_Qsub] at h
    exact ⟨h.2, h.1⟩
  · rw [if_neg c, if_neg c]
    obtain ⟨n, rfl⟩ := Int.eq_ofNat_of_zero_le h0
    exact key n (by omega)
end Go.Proofs.YtjdcicjhpegphaaGreat
namespace Go.Proofs.YtjdcicjhpegphaaGreat
open Go.Sine Go.Re
theorem one_big : ri 1073741824 = (1073741824 : Rl) := rfl
theorem ri_sinP {p : Int} (h0 : 0 ≤ p) (h1 : p ≤ 5400000) : (ri (sinP p) ≤ 1073741824 * Sn (ri p) ∧ 1073741824 * Sn (ri p) ≤ ri (upI p)) ∧ (exB p = true → 1073741824 * Sn (ri p) = ri (sinP p)) ∧ (exB p = false → ri (sinP p) < 1073741824 * Sn (ri p) ∧ 1073741824 * Sn (ri p) < ri (sinP p + 1)) := by
  by_cases hx : exB p = true
  · have key : 1073741824 * Sn (ri p) = ri (sinP p) := by
      unfold exB at hx
      simp only [Bool.or_eq_true, beq_iff_eq] at hx
      rcases hx with e | e | e
      · rw [e, show sinP 0 = 0 from rfl, ri_zero, Sn_zero]
        grind
      · rw [e, show sinP 1800000 = 536870912 from rfl]
        have h3 : Sn (ri 1800000 + (ri 1800000 + ri 1800000)) = 1 := by
          rw [← ri_add, ← ri_add]
          exact Sn_Q
        have n := nrm (ri 1800000)
        have sp := Sn_pos (x := ri 1800000) (by rw [← ri_zero]; exact ri_lt.mpr (by decide)) (by
          have : ri 1800000 < ri ((10800000 : Nat) : Int) := ri_lt.mpr (by decide)
          rw [ri_lit] at this
          exact this)
        rw [Sn_add, Sn_add, Cn_add] at h3
        have f : (Sn (ri 1800000) + 1) * ((2 * Sn (ri 1800000) - 1) * (2 * Sn (ri 1800000) - 1)) = 0 := by
          generalize Sn (ri 1800000) = s at *
          generalize Cn (ri 1800000) = c at *
          have : c * c = 1 - s * s := by grind
          have e3 : s * (c * c - s * s) + c * (s * c + c * s) = 3 * (s * (c * c)) - s * (s * s) := by grind
          rw [e3, this] at h3
          grind
        have g : (2 * Sn (ri 1800000) - 1) * (2 * Sn (ri 1800000) - 1) = 0 := by
          apply cancel (a := Sn (ri 1800000) + 1) (by have := zero_lt_one; grind)
          rw [f]
          grind
        have h := eq_of_sq (x := 2 * Sn (ri 1800000)) (y := 1) (by grind) (by have := zero_lt_one; grind) (by
          have u1 := le_of_sq (x := 2 * Sn (ri 1800000) - 1) (y := 0) (by exact rle_refl _) (by rw [g]; grind)
          have u2 := le_of_sq (x := -(2 * Sn (ri 1800000) - 1)) (y := 0) (by exact rle_refl _) (by
            have : -(2 * Sn (ri 1800000) - 1) * -(2 * Sn (ri 1800000) - 1) = (2 * Sn (ri 1800000) - 1) * (2 * Sn (ri 1800000) - 1) := by grind
            rw [this, g]; grind)
          have : 2 * Sn (ri 1800000) = 1 := by grind
          rw [this])
        have e5 : ri 536870912 = (536870912 : Rl) := rfl
        rw [e5]
        grind
      · rw [e, show sinP 5400000 = 1073741824 from rfl]
        have : Sn (ri 5400000) = 1 := Sn_Q
        rw [this, one_big]
        grind
    have hu : upI p = sinP p := by unfold upI; rw [if_pos hx]
    rw [hu, key]
    exact ⟨⟨rle_refl _, rle_refl _⟩, fun _ => rfl, fun h => by rw [hx] at h; cases h⟩
  · have hx : exB p = false := by simpa using hx
    obtain ⟨n, rfl⟩ := Int.eq_ofNat_of_zero_le h0
    obtain ⟨hF, hI⟩ := far_tQ hx (by omega)
    have near : -(rat (1 / 2 ^ 54)) ≤ rat (tQ n) - Sn (n : Rl) ∧ rat (tQ n) - Sn (n : Rl) ≤ rat (1 / 2 ^ 54) := by
      unfold tQ
      by_cases c : 2 * n ≤ 5400000
      · rw [if_pos c]
        exact (sum_near (by omega)).2
      · rw [if_neg c]
        have h := (sum_near (n := 5400000 - n) (by omega)).1
        have e : (((5400000 - n : Nat)) : Rl) = 5400000 - (n : Rl) := by
          have : ri ((5400000 - n : Nat) : Int) = ri 5400000 - ri (n : Int) := by
            rw [← ri_sub]
            congr 1
            omega
          exact this
        rw [e, Cn_Qsub] at h
        exact h
    have f1 := hF (sinP n)
    have f2 := hF (sinP n + 1)
    obtain ⟨i1, i2⟩ := hI
    have z2 : ((2 : Int) : Rat) = 2 := rfl
    have z1 : ((1 : Int) : Rat) = 1 := rfl
    have lo : (sinP n : Rat) + 1 / 2 ^ 23 ≤ 2 ^ 30 * tQ n := by
      rcases f1 with f | f
      · exfalso
        generalize (sinP n : Rat) = m at *
        clear f2 near
        grind
      · generalize (sinP n : Rat) = m at *
        clear f2 near
        grind
    have hi : 2 ^ 30 * tQ n ≤ (sinP n : Rat) + 1 - 1 / 2 ^ 23 := by
      rw [Rat.intCast_add, z1] at f2
      rcases f2 with f | f
      · generalize (sinP n : Rat) = m at *
        clear f1 near
        grind
      · exfalso
        generalize (sinP n : Rat) = m at *
        clear f1 near
        grind
    have lo := rat_le.mpr lo
    have hi := rat_le.mpr hi
    rw [rat_add, rat_mul] at lo
    rw [rat_sub, rat_add, rat_mul] at hi
    have e30 : rat (2 ^ 30) = (1073741824 : Rl) := by
      have : (1073741824 : Rl) = rat ((1073741824 : Nat) : Rat) := rfl
      rw [this]
      congr 1
    rw [e30] at lo hi
    have e23 : 1073741824 * rat (1 / 2 ^ 54) < rat (1 / 2 ^ 23) := by
      rw [← e30, ← rat_mul]
      exact rat_lt.mpr (by decide +kernel)
    have hu : upI (n : Int) = sinP n + 1 := by unfold upI; rw [if_neg (by rw [hx]; decide)]
    have em : rat (sinP n : Rat) = ri (sinP n) := rfl
    rw [em] at lo hi
    rw [rat_one] at hi
    rw [hu, ri_add, ri_one, ri_nat]
    refine ⟨⟨?_, ?_⟩, (fun h => by rw [hx] at h; cases h), fun _ => ⟨?_, ?_⟩⟩ <;> grind
theorem ri_ends (n : Int) : (ri (loI n) ≤ 1073741824 * Sn (ri n) ∧ 1073741824 * Sn (ri n) ≤ ri (hiE n)) ∧ (loI n < hiE n → ri (loI n) < 1073741824 * Sn (ri n) ∧ 1073741824 * Sn (ri n) < ri (hiE n)) := by
  have e : ri n = ri (mI n) + ri (21600000 * (n / 21600000)) := by
    rw [← ri_add]
    congr 1
    unfold mI
    omega
  have m0 : 0 ≤ mI n ∧ mI n < 21600000 := by unfold mI; omega
  have hS : Sn (ri n) = Sn (ri (mI n)) := by rw [e]; exact (Cn_turns _ _).2
  rw [hS]
  have lit : ri 10800000 = (10800000 : Rl) := rfl
  have q : (0 ≤ quartI n ∧ quartI n ≤ 5400000) ∧ Sn (ri (mI n)) = (if southB n = true then -1 else 1) * Sn (ri (quartI n)) := by
    unfold quartI southB
    by_cases c : 10800000 < mI n
    · rw [if_pos c, if_pos (decide_eq_true c)]
      have s1 : Sn (ri (mI n)) = - Sn (ri (mI n - 10800000)) := by
        have := Sn_addH (ri (mI n - 10800000))
        rw [ri_sub, lit, show ri (mI n) - 10800000 + 10800000 = ri (mI n) by grind] at this
        rw [ri_sub, lit]
        exact this
      by_cases d : 5400000 < mI n - 10800000
      · rw [if_pos d]
        refine ⟨by omega, ?_⟩
        have s2 := Sn_Hsub (ri (mI n - 10800000))
        rw [← lit, ← ri_sub, show 10800000 - (mI n - 10800000) = 21600000 - mI n by omega] at s2
        rw [s1, ← s2]
        grind
      · rw [if_neg d]
        refine ⟨by omega, ?_⟩
        rw [s1]
        grind
    · rw [if_neg c, if_neg (show ¬ decide (10800000 < mI n) = true by simpa using c)]
      by_cases d : 5400000 < mI n
      · rw [if_pos d]
        refine ⟨by omega, ?_⟩
        have s2 := Sn_Hsub (ri (mI n))
        rw [← lit, ← ri_sub] at s2
        rw [← s2]
        grind
      · rw [if_neg d]
        refine ⟨by omega, ?_⟩
        grind
  obtain ⟨⟨q0, q1⟩, hq⟩ := q
  rw [hq]
  obtain ⟨⟨a1, a2⟩, a3, a4⟩ := ri_sinP q0 q1
  unfold loI hiE
  have up : upI (quartI n) = if exB (quartI n) = true then sinP (quartI n) else sinP (quartI n) + 1 := rfl
  cases hs : southB n with
  | true =>
    rw [if_pos rfl, if_pos rfl, if_pos rfl, ri_neg, ri_neg]
    refine ⟨⟨by grind, by grind⟩, fun h => ?_⟩
    cases hx : exB (quartI n) with
    | true => rw [up, hx, if_pos rfl] at h; omega
    | false =>
      have := a4 hx
      rw [up, hx, if_neg (by decide)]
      constructor <;> grind
  | false =>
    rw [if_neg (by decide), if_neg (by decide), if_neg (by decide)]
    refine ⟨⟨by grind, by grind⟩, fun h => ?_⟩
    cases hx : exB (quartI n) with
    | true => rw [up, hx, if_pos rfl] at h; omega
    | false =>
      have := a4 hx
      rw [up, hx, if_neg (by decide)]
      constructor <;> grind
def Enc (a b : Int) (x : Rl) : Prop := ri a ≤ 1073741824 * x ∧ 1073741824 * x ≤ ri b
def Arc (a b : Int) (x : Rl) : Prop := ri a ≤ x ∧ x ≤ ri b
theorem big_pos : (0 : Rl) < 1073741824 := by have := zero_lt_one; grind
theorem Cn_max {u u1 u2 : Rl} (h0 : 0 ≤ u1) (h1 : u1 ≤ u) (h2 : u ≤ u2) (h3 : u2 ≤ 21600000) : Cn u ≤ Cn u1 ∨ Cn u ≤ Cn u2 := by
  by_cases c : u ≤ 10800000
  · exact .inl (Cn_le h0 h1 c)
  · right
    have := Cn_le (x := 21600000 - u2) (y := 21600000 - u) (by grind) (by grind) (by grind)
    rw [Cn_Tsub, Cn_Tsub] at this
    exact this
theorem Sn_as (k : Int) (x : Rl) : Cn (ri (5400000 + 21600000 * k) - x) = Sn x := by
  have h := (Cn_turns (5400000 - x) k).1
  have e : ri (5400000 + 21600000 * k) - x = 5400000 - x + ri (21600000 * k) := by
    rw [ri_add, show ri 5400000 = (5400000 : Rl) from rfl]
    grind
  rw [e, h, Cn_Qsub]
theorem enc_hi {a b : Int} {x : Rl} (hab : a ≤ b) (h : Arc a b x) : 1073741824 * Sn x ≤ ri (encH a b) := by
  unfold encH
  have r := Cn_range x
  by_cases c : hasB a b 5400000 = true
  · rw [if_pos c, one_big]
    have := big_pos
    grind
  · rw [if_neg c]
    have c : ¬ (5400000 - a) % 21600000 ≤ b - a := by unfold hasB at c; simpa using c
    have hk : 5400000 + 21600000 * (-((5400000 - a) / 21600000)) = a + (5400000 - a) % 21600000 := by omega
    have m1 : (5400000 - a) % 21600000 < 21600000 := Int.emod_lt_of_pos _ (by decide)
    obtain ⟨x1, x2⟩ := h
    have s := Sn_as (-((5400000 - a) / 21600000))
    rw [hk] at s
    generalize (5400000 - a) % 21600000 = d at *
    have d1 : ri b ≤ ri (a + d) := ri_le.mpr (by omega)
    have d2 : ri (a + d) ≤ ri (a + 21600000) := ri_le.mpr (by omega)
    rw [ri_add a 21600000, show ri 21600000 = (21600000 : Rl) from rfl] at d2
    have ea := (ri_ends a).1.2
    have eb := (ri_ends b).1.2
    have ma : ri (hiE a) ≤ ri (max (hiE a) (hiE b)) := ri_le.mpr (by omega)
    have mb : ri (hiE b) ≤ ri (max (hiE a) (hiE b)) := ri_le.mpr (by omega)
    rw [← s x]
    rw [← s (ri a)] at ea
    rw [← s (ri b)] at eb
    rcases Cn_max (u := ri (a + d) - x) (u1 := ri (a + d) - ri b) (u2 := ri (a + d) - ri a) (by grind) (by grind) (by grind) (by grind) with q | q
    · grind
    · grind
theorem Sn_as3 (k : Int) (x : Rl) : Cn (ri (16200000 + 21600000 * k) - x) = - Sn x := by
  have h := Sn_as k (x - 10800000)
  have e : ri (16200000 + 21600000 * k) - x = ri (5400000 + 21600000 * k) - (x - 10800000) := by
    rw [ri_add, ri_add, show ri 5400000 = (5400000 : Rl) from rfl, show ri 16200000 = (16200000 : Rl) from rfl]
    grind
  have g := Sn_addH (x - 10800000)
  rw [show x - 10800000 + 10800000 = x by grind] at g
  rw [e, h, g]
  grind
theorem enc_lo {a b : Int} {x : Rl} (hab : a ≤ b) (h : Arc a b x) : ri (encL a b) ≤ 1073741824 * Sn x := by
  unfold encL
  have r := Cn_range x
  by_cases c : hasB a b 16200000 = true
  · rw [if_pos c, show (-1073741824 : Int) = -(1073741824) from rfl, ri_neg, one_big]
    have := big_pos
    grind
  · rw [if_neg c]
    have c : ¬ (16200000 - a) % 21600000 ≤ b - a := by unfold hasB at c; simpa using c
    have hk : 16200000 + 21600000 * (-((16200000 - a) / 21600000)) = a + (16200000 - a) % 21600000 := by omega
    have m1 : (16200000 - a) % 21600000 < 21600000 := Int.emod_lt_of_pos _ (by decide)
    obtain ⟨x1, x2⟩ := h
    have s := Sn_as3 (-((16200000 - a) / 21600000))
    rw [hk] at s
    generalize (16200000 - a) % 21600000 = d at *
    have d1 : ri b ≤ ri (a + d) := ri_le.mpr (by omega)
    have d2 : ri (a + d) ≤ ri (a + 21600000) := ri_le.mpr (by omega)
    rw [ri_add a 21600000, show ri 21600000 = (21600000 : Rl) from rfl] at d2
    have ea := (ri_ends a).1.1
    have eb := (ri_ends b).1.1
    have ma : ri (min (loI a) (loI b)) ≤ ri (loI a) := ri_le.mpr (by omega)
    have mb : ri (min (loI a) (loI b)) ≤ ri (loI b) := ri_le.mpr (by omega)
    have sx := s x
    have sa := s (ri a)
    have sb := s (ri b)
    rcases Cn_max (u := ri (a + d) - x) (u1 := ri (a + d) - ri b) (u2 := ri (a + d) - ri a) (by grind) (by grind) (by grind) (by grind) with q | q
    · grind
    · grind
theorem enc_sin {a b : Int} {x : Rl} (hab : a ≤ b) (h : Arc a b x) : Enc (encL a b) (encH a b) (Sn x) := ⟨enc_lo hab h, enc_hi hab h⟩
theorem enc_cos {a b : Int} {x : Rl} (hab : a ≤ b) (h : Arc a b x) : Enc (cL a b) (cH a b) (Cn x) := by
  have := enc_sin (a := a + 5400000) (b := b + 5400000) (x := x + 5400000) (by omega) (by
    unfold Arc at *
    rw [ri_add, ri_add, show ri 5400000 = (5400000 : Rl) from rfl]
    grind)
  rw [Sn_addQ] at this
  exact this
theorem arc_one (n : Int) : Arc n n (ri n) := ⟨rle_refl _, rle_refl _⟩
def hvL (a b : Int) : Int := (1073741824 - cH a b) / 2
def hvH (a b : Int) : Int := (1073741824 - cL a b + 1) / 2
theorem enc_hav {a b : Int} {x y : Rl} (hab : a ≤ b) (h : Arc a b x) (hy : 2 * y = 1 - Cn x) : Enc (hvL a b) (hvH a b) y := by
  obtain ⟨c1, c2⟩ := enc_cos hab h
  have l1 : ri (2 * hvL a b) ≤ ri (1073741824 - cH a b) := ri_le.mpr (by unfold hvL; omega)
  have l2 : ri (1073741824 - cL a b) ≤ ri (2 * hvH a b) := ri_le.mpr (by unfold hvH; omega)
  rw [ri_mul, ri_sub, ri_two, one_big] at l1
  rw [ri_mul, ri_sub, ri_two, one_big] at l2
  constructor <;> grind
theorem enc_add {a b c d : Int} {x y : Rl} (h : Enc a b x) (k : Enc c d y) : Enc (a + c) (b + d) (x + y) := by
  unfold Enc at *
  rw [ri_add, ri_add]
  grind
theorem enc_sub {a b c d : Int} {x y : Rl} (h : Enc a b x) (k : Enc c d y) : Enc (a - d) (b - c) (x - y) := by
  unfold Enc at *
  rw [ri_sub, ri_sub]
  grind
theorem lin_box {a b x c : Rl} (h1 : a ≤ x) (h2 : x ≤ b) : (x * c ≤ a * c ∨ x * c ≤ b * c) ∧ (a * c ≤ x * c ∨ b * c ≤ x * c) := by
  by_cases s : 0 ≤ c
  · have m1 := mul_nonneg (show 0 ≤ x - a by grind) s
    have m2 := mul_nonneg (show 0 ≤ b - x by grind) s
    grind
  · have m1 := mul_nonneg (show 0 ≤ x - a by grind) (show 0 ≤ -c by grind)
    have m2 := mul_nonneg (show 0 ≤ b - x by grind) (show 0 ≤ -c by grind)
    grind
theorem enc_mul {a b c d : Int} {x y : Rl} (h : Enc a b x) (k : Enc c d y) : Enc (muL a b c d) (muH a b c d) (x * y) := by
  obtain ⟨h1, h2⟩ := h
  obtain ⟨k1, k2⟩ := k
  have le : ∀ p q : Int, p ≤ q → ri p ≤ ri q := fun p q h => ri_le.mpr h
  have e : 1073741824 * (1073741824 * (x * y)) = (1073741824 * x) * (1073741824 * y) := by grind
  have corner : ∀ p q : Int, (p = a ∨ p = b) → (q = c ∨ q = d) → ri (mnP a b c d) ≤ ri p * ri q ∧ ri p * ri q ≤ ri (mxP a b c d) := fun p q hp hq => by
    rw [← ri_mul]
    unfold mnP mxP
    rcases hp with rfl | rfl <;> rcases hq with rfl | rfl <;> exact ⟨le _ _ (by omega), le _ _ (by omega)⟩
  have ac := corner a c (.inl rfl) (.inl rfl)
  have ad := corner a d (.inl rfl) (.inr rfl)
  have bc := corner b c (.inr rfl) (.inl rfl)
  have bd := corner b d (.inr rfl) (.inr rfl)
  have t1 := lin_box (c := 1073741824 * y) h1 h2
  have t2 := lin_box (c := ri a) k1 k2
  have t3 := lin_box (c := ri b) k1 k2
  have bound : ri (mnP a b c d) ≤ (1073741824 * x) * (1073741824 * y) ∧ (1073741824 * x) * (1073741824 * y) ≤ ri (mxP a b c d) := by
    rw [rmul_comm (1073741824 * y) (ri a), rmul_comm (ri c), rmul_comm (ri d)] at t2
    rw [rmul_comm (1073741824 * y) (ri b), rmul_comm (ri c), rmul_comm (ri d)] at t3
    clear e corner
    generalize ri (mnP a b c d) = m at *
    generalize ri (mxP a b c d) = M at *
    generalize ri a * ri c = A at *
    generalize ri a * ri d = B at *
    generalize ri b * ri c = C at *
    generalize ri b * ri d = D at *
    generalize ri a * (1073741824 * y) = E at *
    generalize ri b * (1073741824 * y) = F at *
    generalize 1073741824 * x * (1073741824 * y) = G at *
    clear h1 h2 k1 k2
    constructor
    · rcases t1.2 with q | q
      · rcases t2.2 with r | r <;> grind
      · rcases t3.2 with r | r <;> grind
    · rcases t1.1 with q | q
      · rcases t2.1 with r | r <;> grind
      · rcases t3.1 with r | r <;> grind
  rw [← e] at bound
  have l1 : ri (1073741824 * muL a b c d) ≤ ri (mnP a b c d) := le _ _ (by unfold muL; omega)
  have l2 : ri (mxP a b c d) ≤ ri (1073741824 * muH a b c d) := le _ _ (by unfold muH; omega)
  rw [ri_mul, one_big] at l1 l2
  constructor
  · apply cancel_le big_pos
    grind
  · apply cancel_le big_pos
    grind
end Go.Proofs.YtjdcicjhpegphaaGreat
namespace Go.Proofs.YtjdcicjhpegphaaGreat
open Go.Sine Go.Re
def dvL (a b c d : Int) : Int := min (min (min (a * 1073741824 / c) (a * 1073741824 / d)) (b * 1073741824 / c)) (b * 1073741824 / d)
def dvH (a b c d : Int) : Int := max (max (max (-(-(a * 1073741824) / c)) (-(-(a * 1073741824) / d))) (-(-(b * 1073741824) / c))) (-(-(b * 1073741824) / d))
theorem fl_mul {n d : Int} (hd : 0 < d) : d * (n / d) ≤ n := Int.mul_ediv_self_le (by omega)
theorem enc_div {a b c d : Int} {x y q : Rl} (hc : 0 < c) (h : Enc a b x) (k : Enc c d y) (e : q * y = x) : Enc (dvL a b c d) (dvH a b c d) q := by
  obtain ⟨h1, h2⟩ := h
  obtain ⟨k1, k2⟩ := k
  have cp : 0 < ri c := by rw [← ri_zero]; exact ri_lt.mpr hc
  have hcd : c ≤ d := by
    have : ri c ≤ ri d := rle_trans _ _ _ k1 k2
    exact ri_le.mp this
  have big := big_pos
  have eq : (1073741824 * q) * (1073741824 * y) = 1073741824 * (1073741824 * x) := by rw [← e]; grind
  have Y0 : 0 < 1073741824 * y := by grind
  have le1 : ∀ m : Int, m * c ≤ a * 1073741824 → m * d ≤ a * 1073741824 → ri m ≤ 1073741824 * q := fun m m1 m2 => by
    apply cancel_le Y0
    have m1 := ri_le.mpr m1
    have m2 := ri_le.mpr m2
    rw [ri_mul, ri_mul, one_big] at m1 m2
    have t := (lin_box (c := ri m) k1 k2).1
    have g := mul_mono h1 (rle_refl (1073741824 : Rl)) (Std.le_of_lt big) 
    grind
  have le2 : ∀ m : Int, b * 1073741824 ≤ m * c → b * 1073741824 ≤ m * d → 1073741824 * q ≤ ri m := fun m m1 m2 => by
    apply cancel_le Y0
    have m1 := ri_le.mpr m1
    have m2 := ri_le.mpr m2
    rw [ri_mul, ri_mul, one_big] at m1 m2
    have t := (lin_box (c := ri m) k1 k2).2
    grind
  constructor
  · apply le1
    · have := @fl_mul (a * 1073741824) c hc
      have h : dvL a b c d ≤ a * 1073741824 / c := by unfold dvL; omega
      have := Int.mul_le_mul_of_nonneg_right h (Int.le_of_lt hc)
      rw [Int.mul_comm (a * 1073741824 / c)] at this
      omega
    · have hd : 0 < d := by omega
      have := @fl_mul (a * 1073741824) d hd
      have h : dvL a b c d ≤ a * 1073741824 / d := by unfold dvL; omega
      have := Int.mul_le_mul_of_nonneg_right h (Int.le_of_lt hd)
      rw [Int.mul_comm (a * 1073741824 / d)] at this
      omega
  · apply le2
    · have := @fl_mul (-(b * 1073741824)) c hc
      have h : -(-(b * 1073741824) / c) ≤ dvH a b c d := by unfold dvH; omega
      have := Int.mul_le_mul_of_nonneg_right h (Int.le_of_lt hc)
      rw [Int.neg_mul, Int.mul_comm (-(b * 1073741824) / c)] at this
      omega
    · have hd : 0 < d := by omega
      have := @fl_mul (-(b * 1073741824)) d hd
      have h : -(-(b * 1073741824) / d) ≤ dvH a b c d := by unfold dvH; omega
      have := Int.mul_le_mul_of_nonneg_right h (Int.le_of_lt hd)
      rw [Int.neg_mul, Int.mul_comm (-(b * 1073741824) / d)] at this
      omega
theorem enc_root {a b l u : Int} {x r : Rl} (h : Enc a b x) (r0 : 0 ≤ r) (hr : r * r = x) (u0 : 0 ≤ u) (hl : l * l ≤ max 0 a * 1073741824) (hu : b * 1073741824 ≤ u * u) : Enc l u r := by
  obtain ⟨h1, h2⟩ := h
  have big := big_pos
  have e : (1073741824 * r) * (1073741824 * r) = 1073741824 * (1073741824 * x) := by rw [← hr]; grind
  have n0 := mul_nonneg (Std.le_of_lt big) r0
  have u0' : 0 ≤ ri u := by rw [← ri_zero]; exact ri_le.mpr u0
  have hl := ri_le.mpr hl
  have hu := ri_le.mpr hu
  rw [ri_mul, ri_mul, one_big] at hl hu
  have x0 : 0 ≤ x := by rw [← hr]; exact mul_nonneg r0 r0
  have hm : ri (max 0 a) ≤ 1073741824 * x := by
    rcases Int.le_total 0 a with q | q
    · rw [Int.max_eq_right q]
      exact h1
    · rw [Int.max_eq_left q, ri_zero]
      exact mul_nonneg (Std.le_of_lt big) x0
  constructor
  · apply le_of_sq n0
    grind
  · apply le_of_sq u0'
    grind
theorem asn_real {v : Int} (h : -1073741824 ≤ v) : 1073741824 * Sn (ri (asnI v)) ≤ ri v := by
  rcases asn_found v with e | e
  · have := (ri_ends (asnI v)).1.2
    have := ri_le.mpr e
    grind
  · rw [e, show (-5400000 : Int) = -(5400000) from rfl, ri_neg, Sn_neg, show ri 5400000 = (5400000 : Rl) from rfl, Sn_Q]
    have := ri_le.mpr h
    rw [show (-1073741824 : Int) = -(1073741824) from rfl, ri_neg, one_big] at this
    grind
def ahL (a : Int) : Int := 5400000 + asnI (2 * max a 0 - 1073741824)
def ahH (b : Int) : Int := 5400000 - asnI (1073741824 - 2 * min b 1073741824)
theorem ah_range (a b : Int) : (0 ≤ ahL a ∧ ahL a ≤ 10800000) ∧ 0 ≤ ahH b ∧ ahH b ≤ 10800000 := by
  have h := asn_range (2 * max a 0 - 1073741824)
  have k := asn_range (1073741824 - 2 * min b 1073741824)
  unfold ahL ahH
  omega
theorem arc_ahav {a b : Int} {x y : Rl} (x0 : 0 ≤ x) (x1 : x ≤ 10800000) (hy : 2 * y = 1 - Cn x) (h : Enc a b y) : Arc (ahL a) (ahH b) x := by
  obtain ⟨h1, h2⟩ := h
  have r := Cn_range x
  have big := big_pos
  have q5 : ri 5400000 = (5400000 : Rl) := rfl
  have H1 : ri (10800000 : Int) = (10800000 : Rl) := rfl
  have y0 : 0 ≤ 1073741824 * y := by grind
  have y1 : 1073741824 * y ≤ 1073741824 := by grind
  have hm : ri (max a 0) ≤ 1073741824 * y := by
    rcases Int.le_total a 0 with q | q
    · rw [Int.max_eq_right q, ri_zero]
      exact y0
    · rw [Int.max_eq_left q]
      exact h1
  have hn : 1073741824 * y ≤ ri (min b 1073741824) := by
    rcases Int.le_total b 1073741824 with q | q
    · rw [Int.min_eq_left q]
      exact h2
    · rw [Int.min_eq_right q, one_big]
      exact y1
  obtain ⟨⟨l0, l1⟩, u0, u1⟩ := ah_range a b
  have l0 := ri_le.mpr l0
  have l1 := ri_le.mpr l1
  have u0 := ri_le.mpr u0
  have u1 := ri_le.mpr u1
  rw [ri_zero] at l0 u0
  rw [H1] at l1 u1
  constructor
  · apply le_of_Cn x0 l1
    have s := asn_real (v := 2 * max a 0 - 1073741824) (by omega)
    rw [ri_sub, ri_mul, ri_two, one_big] at s
    unfold ahL
    rw [ri_add, q5, show (5400000 : Rl) + ri (asnI (2 * max a 0 - 1073741824)) = ri (asnI (2 * max a 0 - 1073741824)) + 5400000 by grind, Cn_addQ]
    apply cancel_le big
    grind
  · apply le_of_Cn u0 x1
    have s := asn_real (v := 1073741824 - 2 * min b 1073741824) (by omega)
    rw [ri_sub, ri_mul, ri_two, one_big] at s
    unfold ahH
    rw [ri_sub, q5, Cn_Qsub]
    apply cancel_le big
    grind
end Go.Proofs.YtjdcicjhpegphaaGreat
namespace Go.Proofs.YtjdcicjhpegphaaGreat
open Go.Sine Go.Re
noncomputable def e8 : Rl := rat (1 / 8)
theorem e8_eight : 8 * e8 = 1 := by
  unfold e8
  rw [show (8 : Rl) = rat 8 from rfl, ← rat_mul, ← rat_one]
  congr 1
  decide +kernel
theorem e8_pos : 0 < e8 := rat_pos.mpr (by decide +kernel)
theorem e8_sine : 2 * d53 ≤ Sn e8 := by
  have h8 := e8_eight
  have z := zero_lt_one
  have p8 := e8_pos
  have key : ∀ n : Nat, n ≤ 43200000 → Sn (e8 * (n : Rl)) ≤ (n : Rl) * Sn e8 ∧ 0 ≤ Sn (e8 * (n : Rl)) := by
    intro n
    induction n with
    | zero =>
      intro _
      have : ((0 : Nat) : Rl) = 0 := rfl
      rw [this, show e8 * (0 : Rl) = 0 by grind, Sn_zero]
      grind
    | succ n ih =>
      intro h
      have ih := ih (by omega)
      rw [cast_succ, show e8 * ((n : Rl) + 1) = e8 * (n : Rl) + e8 by grind, Sn_add]
      have s2 := Sn_pos (x := e8) p8 (by grind)
      have hn : (n : Rl) + 1 ≤ 43200000 := by
        rw [← cast_succ]
        exact (rat_le.mpr (Rat.natCast_le_natCast.mpr h))
      have c0 := cast_nonneg n
      have m := mul_nonneg (Std.le_of_lt p8) c0
      have m2 := mul_nonneg (Std.le_of_lt p8) (show 0 ≤ 43200000 - ((n : Rl) + 1) by grind)
      have r1 := Cn_range (e8 * (n : Rl))
      have r2 := Cn_range e8
      have a1 := mul_nonneg ih.2 (show 0 ≤ 1 - Cn e8 by grind)
      have a2 := mul_nonneg (Std.le_of_lt s2) (show 0 ≤ 1 - Cn (e8 * (n : Rl)) by grind)
      refine ⟨by grind, ?_⟩
      rw [← Sn_add]
      exact Sn_nonneg (by grind) (by grind)
  have k := (key 43200000 (Nat.le_refl _)).1
  rw [show ((43200000 : Nat) : Rl) = (43200000 : Rl) from rfl, show e8 * (43200000 : Rl) = 5400000 by grind, Sn_Q] at k
  have q : 43200000 * (2 * d53) ≤ 1 := by
    unfold d53
    rw [show (43200000 : Rl) = rat ((43200000 : Nat) : Rat) from rfl, show (2 : Rl) = rat 2 from rfl, ← rat_mul, ← rat_mul, ← rat_one]
    exact rat_le.mpr (by decide +kernel)
  apply cancel_le (a := 43200000) (by grind)
  grind
theorem polar {X Y : Rl} (h : 0 < X * X + Y * Y) : ∃ r φ, 0 < r ∧ 0 ≤ φ ∧ φ < 21600000 ∧ X = r * Cn φ ∧ Y = r * Sn φ := by
  obtain ⟨r, r0, hr⟩ := exists_root (Std.le_of_lt h)
  have rp : 0 < r := by
    by_cases z : r = 0
    · rw [z] at hr
      grind
    · grind
  obtain ⟨i, i0, hi⟩ := exists_inv rp
  have n : (X * i) * (X * i) + (Y * i) * (Y * i) = 1 := by
    have : (X * i) * (X * i) + (Y * i) * (Y * i) = (X * X + Y * Y) * (i * i) := by grind
    rw [this, ← hr]
    have : r * r * (i * i) = (r * i) * (r * i) := by grind
    rw [this, hi]
    grind
  obtain ⟨φ, f0, f1, hc, hs⟩ := arg_ex n
  refine ⟨r, φ, rp, f0, f1, ?_, ?_⟩
  · rw [hc]
    have : r * (X * i) = X * (r * i) := by grind
    rw [this, hi]
    grind
  · rw [hs]
    have : r * (Y * i) = Y * (r * i) := by grind
    rw [this, hi]
    grind
theorem first_quarter {φ : Rl} (f0 : 0 ≤ φ) (f1 : φ < 21600000) (hc : 0 < Cn φ) (hs : 0 ≤ Sn φ) : φ < 5400000 := by
  have z := zero_lt_one
  have xH : φ ≤ 10800000 := by
    apply Classical.byContradiction
    intro c
    have := Sn_pos (x := φ - 10800000) (by grind) (by grind)
    have e := Sn_addH (φ - 10800000)
    rw [show φ - 10800000 + 10800000 = φ by grind] at e
    grind
  apply Classical.byContradiction
  intro c
  have := Cn_le (x := 5400000) (y := φ) (by grind) (by grind) xH
  rw [Cn_Q] at this
  grind
theorem rea_near {x y k : Int} (hx : 0 < x) (hy : 0 ≤ y) (bx : x ≤ 4294967296) (by' : y ≤ 4294967296) (k0 : 0 ≤ k) (k1 : k ≤ 5400000) {r φ : Rl} (r0 : 0 < r) (f0 : 0 ≤ φ) (f1 : φ < 5400000) (ex : ri x = r * Cn φ) (ey : ri y = r * Sn φ) :
    (reaB x y k = true → ri k ≤ φ + e8) ∧ (reaB x y k = false → φ ≤ ri k + e8) := by
  have p8 := e8_pos
  have s8 := e8_sine
  have z := zero_lt_one
  have h8 := e8_eight
  have K0 := ri_le.mpr k0
  have K1 := ri_le.mpr k1
  rw [ri_zero] at K0
  rw [show ri 5400000 = (5400000 : Rl) from rfl] at K1
  have dp : 0 < d53 := rat_pos.mpr (by decide +kernel)
  have up : -(2 * d53) ≤ Sn (φ - ri k) → ri k ≤ φ + e8 := fun h => by
    apply Classical.byContradiction
    intro c
    have := Sn_lt (x := φ - ri k) (y := -e8) (by grind) (by grind) (by grind)
    rw [Sn_neg] at this
    grind
  have down : Sn (φ - ri k) ≤ 2 * d53 → φ ≤ ri k + e8 := fun h => by
    apply Classical.byContradiction
    intro c
    have := Sn_lt (x := e8) (y := φ - ri k) (by grind) (by grind) (by grind)
    grind
  unfold reaB
  by_cases c0 : k = 0
  · rw [if_pos c0]
    refine ⟨fun _ => ?_, fun h => by cases h⟩
    rw [c0, ri_zero]
    grind
  · rw [if_neg c0]
    by_cases c1 : k = 2700000
    · rw [if_pos c1]
      have e45 : Cn (ri k) = Sn (ri k) := by
        have := Cn_Qsub (ri k)
        rw [← this, c1]
        congr 1
        have : ri 2700000 = (2700000 : Rl) := rfl
        rw [this]
        grind
      have sp := Sn_pos (x := ri k) (by rw [c1]; have : ri 2700000 = (2700000 : Rl) := rfl; rw [this]; grind) (by grind)
      have d : r * Sn (φ - ri k) = Sn (ri k) * (ri y - ri x) := by
        rw [Sn_sub, e45, ex, ey]
        grind
      refine ⟨fun h => up ?_, fun h => down ?_⟩
      · have h := ri_le.mpr (of_decide_eq_true h)
        have := mul_nonneg (Std.le_of_lt sp) (show 0 ≤ ri y - ri x by grind)
        have := pos_of_mul r0 (by rw [d]; exact this)
        grind
      · have h := ri_lt.mpr (show y < x by have := of_decide_eq_false h; omega)
        have := mul_nonneg (Std.le_of_lt sp) (show 0 ≤ ri x - ri y by grind)
        have : 0 ≤ r * (-Sn (φ - ri k)) := by grind
        have := pos_of_mul r0 this
        grind
    · rw [if_neg c1]
      obtain ⟨⟨s, hs, s1, s2⟩, c, hc, c2, c3⟩ := circ_near k0 k1
      have sb : 0 ≤ Sn (ri k) := Sn_nonneg K0 (by grind)
      have cb : 0 ≤ Cn (ri k) := Cn_nonneg (by grind) K1
      have wp := wr_pos
      have rng := Cn_range (ri k)
      have d1 : d53 < 1 := by rw [← rat_one]; exact rat_lt.mpr (by decide +kernel)
      have big : ∀ {q : Int} {v : Rl} {n : Int}, ri q = wr * v → v ≤ 2 → 0 ≤ n → n ≤ 4294967296 → 0 ≤ q → q * n % W4 = q * n := fun {q v n} e1 e2 n0 n1 q0 => by
        apply Int.emod_eq_of_lt (Int.mul_nonneg q0 n0)
        have hq : q ≤ 2 * W3 := by
          apply ri_le.mp
          rw [e1, ri_mul, ri_two]
          have : ri W3 = wr := by unfold ri wr; rw [W3_T]
          rw [this]
          have := mul_nonneg (Std.le_of_lt wp) (show 0 ≤ 2 - v by grind)
          grind
        have : q * n ≤ 2 * W3 * 4294967296 := Int.mul_le_mul hq n1 n0 (by decide)
        have : 2 * W3 * 4294967296 < W4 := by decide
        omega
      have sn : 0 ≤ sinC k ∧ 0 ≤ cosC k := ⟨(sinC_b ⟨k0, k1⟩).1, (cosC_b ⟨k0, k1⟩).1⟩
      rw [big hs (by grind) (by omega) bx sn.1, big hc (by grind) hy by' sn.2]
      have X0 : 0 < ri x := by rw [← ri_zero]; exact ri_lt.mpr hx
      have Y0 : 0 ≤ ri y := by rw [← ri_zero]; exact ri_le.mpr hy
      have rf := Cn_range φ
      have Xr : ri x ≤ r := by
        have := mul_nonneg (Std.le_of_lt r0) (show 0 ≤ 1 - Cn φ by grind)
        grind
      have Yr : ri y ≤ r := by
        have := mul_nonneg (Std.le_of_lt r0) (show 0 ≤ 1 - Sn φ by grind)
        grind
      have d : r * Sn (φ - ri k) = Cn (ri k) * ri y - Sn (ri k) * ri x := by
        rw [Sn_sub, ex, ey]
        grind
      have m1 := mul_nonneg (show 0 ≤ d53 - (c - Cn (ri k)) by grind) Y0
      have m2 := mul_nonneg (show 0 ≤ d53 + (c - Cn (ri k)) by grind) Y0
      have m3 := mul_nonneg (show 0 ≤ d53 - (s - Sn (ri k)) by grind) (Std.le_of_lt X0)
      have m4 := mul_nonneg (show 0 ≤ d53 + (s - Sn (ri k)) by grind) (Std.le_of_lt X0)
      have m5 := mul_nonneg (Std.le_of_lt dp) (show 0 ≤ r - ri x by grind)
      have m6 := mul_nonneg (Std.le_of_lt dp) (show 0 ≤ r - ri y by grind)
      refine ⟨fun h => up ?_, fun h => down ?_⟩
      · have h : ¬ cosC k * y < sinC k * x := by simpa using h
        have h := ri_le.mpr (show sinC k * x ≤ cosC k * y by omega)
        rw [ri_mul, ri_mul, hs, hc] at h
        have g : s * ri x ≤ c * ri y := by
          apply cancel_le wp
          grind
        have : 0 ≤ r * (Sn (φ - ri k) + 2 * d53) := by
          have : r * (Sn (φ - ri k) + 2 * d53) = r * Sn (φ - ri k) + 2 * (r * d53) := by grind
          rw [this, d]
          clear up down hs hc h
          grind
        have := pos_of_mul r0 this
        grind
      · have h : cosC k * y < sinC k * x := by simpa using h
        have h := ri_le.mpr (Int.le_of_lt h)
        rw [ri_mul, ri_mul, hs, hc] at h
        have g : c * ri y ≤ s * ri x := by
          apply cancel_le wp
          grind
        have : 0 ≤ r * (2 * d53 - Sn (φ - ri k)) := by
          have : r * (2 * d53 - Sn (φ - ri k)) = 2 * (r * d53) - r * Sn (φ - ri k) := by grind
          rw [this, d]
          clear up down hs hc h
          grind
        have := pos_of_mul r0 this
        grind
theorem ang_near {x y : Int} (h : PlOk x y) : ∃ r ψ, 0 < r ∧ 0 ≤ ψ ∧ ψ < 21600000 ∧ ri x = r * Cn ψ ∧ ri y = r * Sn ψ ∧ ri (angP x y) ≤ ψ + e8 ∧ ψ ≤ ri (angP x y) + 1 + e8 ∧ ψ ≤ ri (angP x y + (if exaP x y = true then 0 else 1)) + e8 := by
  have rp := rx_pos h
  have p8 := e8_pos
  have z := zero_lt_one
  have h8 := e8_eight
  have X0 : 0 < ri (rxI x y) := by rw [← ri_zero]; exact ri_lt.mpr rp.1
  have Y0 : 0 ≤ ri (ryI x y) := by rw [← ri_zero]; exact ri_le.mpr rp.2.1
  obtain ⟨r, φ, r0, f0, f1, ex, ey⟩ := polar (X := ri (rxI x y)) (Y := ri (ryI x y)) (by have := rmul_pos X0 X0; have := sq_pos (ri (ryI x y)); grind)
  have cp : 0 < Cn φ := by
    apply Classical.byContradiction
    intro c
    have := mul_nonneg (Std.le_of_lt r0) (show 0 ≤ - Cn φ by grind)
    grind
  have sp : 0 ≤ Sn φ := pos_of_mul r0 (by rw [← ey]; exact Y0)
  have fq := first_quarter f0 f1 cp sp
  have lr := bsI_in (reaB (rxI x y) (ryI x y)) 5400000 0 5400000 (by decide) (by decide)
  have lf := bsI_found (reaB (rxI x y) (ryI x y)) 5400000 0 5400000 (by decide) (by decide)
  have lr : 0 ≤ lowI x y ∧ lowI x y < 5400000 := lr
  have lf : (reaB (rxI x y) (ryI x y) (lowI x y) = true ∨ lowI x y = 0) ∧ (reaB (rxI x y) (ryI x y) (lowI x y + 1) = false ∨ lowI x y + 1 = 5400000) := lf
  have l1 : ri (lowI x y) ≤ φ + e8 := by
    rcases lf.1 with e | e
    · exact (rea_near rp.1 rp.2.1 rp.2.2.1 rp.2.2.2 lr.1 (by omega) r0 f0 fq ex ey).1 e
    · rw [e, ri_zero]
      grind
  have l2 : φ ≤ ri (lowI x y) + 1 + e8 := by
    rcases lf.2 with e | e
    · have := (rea_near rp.1 rp.2.1 rp.2.2.1 rp.2.2.2 (show 0 ≤ lowI x y + 1 by omega) (by omega) r0 f0 fq ex ey).2 e
      rw [ri_add, ri_one] at this
      exact this
    · have : ri (lowI x y) + 1 = 5400000 := by
        rw [← ri_one, ← ri_add, e]
        rfl
      grind
  have l3 : exaP x y = true → φ = ri (lowI x y) := fun he => by
    unfold exaP at he
    by_cases c : lowI x y = 0 ∧ ryI x y = 0
    · rw [c.2, ri_zero] at ey
      have : Sn φ = 0 := by
        apply cancel r0
        grind
      rw [c.1, ri_zero]
      apply Classical.byContradiction
      intro d
      have := Sn_pos (x := φ) (by grind) (by grind)
      grind
    · rw [if_neg c] at he
      obtain ⟨c1, c2⟩ := of_decide_eq_true he
      have e45 : Cn φ = Cn (5400000 - φ) := by
        rw [Cn_Qsub]
        apply cancel r0
        rw [← ex, ← ey, c2]
      have := Cn_inj f0 (by grind) (by grind) (by grind) e45
      rw [c1, show ri 2700000 = (2700000 : Rl) from rfl]
      grind
  have qr := qd_range x y
  have q5 : ri (5400000 * qdI x y) = 5400000 * ri (qdI x y) := by rw [ri_mul]; rfl
  have ap : ri (angP x y) = 5400000 * ri (qdI x y) + ri (lowI x y) := by
    unfold angP
    rw [ri_add, q5]
  have fin : ∀ ψ : Rl, ψ = 5400000 * ri (qdI x y) + φ → ri x = r * Cn ψ → ri y = r * Sn ψ → ∃ r ψ, 0 < r ∧ 0 ≤ ψ ∧ ψ < 21600000 ∧ ri x = r * Cn ψ ∧ ri y = r * Sn ψ ∧ ri (angP x y) ≤ ψ + e8 ∧ ψ ≤ ri (angP x y) + 1 + e8 ∧ ψ ≤ ri (angP x y + (if exaP x y = true then 0 else 1)) + e8 := fun ψ e hx hy => by
    have q0 := ri_le.mpr qr.1
    have q3 := ri_le.mpr qr.2
    rw [ri_zero] at q0
    rw [show ri 3 = (3 : Rl) from rfl] at q3
    refine ⟨r, ψ, r0, by grind, by grind, hx, hy, by grind, by grind, ?_⟩
    by_cases c : exaP x y = true
    · rw [if_pos c, ri_add, ri_zero]
      have := l3 c
      grind
    · rw [if_neg c, ri_add, ri_one]
      grind
  have two : (2 : Rl) * 5400000 = 10800000 := by grind
  unfold rxI at ex
  unfold ryI at ey
  by_cases c0 : x > 0 ∧ y ≥ 0
  · rw [if_pos c0] at ex ey
    have hq : qdI x y = 0 := by unfold qdI; rw [if_pos c0]
    exact fin φ (by rw [hq, ri_zero]; grind) ex ey
  · rw [if_neg c0] at ex ey
    by_cases c1 : y > 0
    · rw [if_pos c1] at ex ey
      have hq : qdI x y = 1 := by unfold qdI; rw [if_neg c0, if_pos c1]
      refine fin (φ + 5400000) (by rw [hq, ri_one]; grind) ?_ ?_
      · rw [Cn_addQ]
        rw [ri_neg] at ey
        grind
      · rw [Sn_addQ]
        exact ex
    · rw [if_neg c1] at ex ey
      by_cases c2 : x < 0
      · rw [if_pos c2] at ex ey
        have hq : qdI x y = 2 := by unfold qdI; rw [if_neg c0, if_neg c1, if_pos c2]
        rw [ri_neg] at ex ey
        refine fin (φ + 10800000) (by rw [hq, ri_two]; grind) ?_ ?_
        · rw [Cn_addH]
          grind
        · rw [Sn_addH]
          grind
      · rw [if_neg c2] at ex ey
        have hq : qdI x y = 3 := by unfold qdI; rw [if_neg c0, if_neg c1, if_neg c2]
        rw [ri_neg] at ex
        refine fin (φ + 5400000 + 10800000) (by rw [hq, show ri 3 = (3 : Rl) from rfl]; grind) ?_ ?_
        · rw [Cn_addH, Cn_addQ]
          grind
        · rw [Sn_addH, Sn_addQ]
          grind
def Cov (p : Fo) (x y : Int) : Prop := p.b * x ≤ p.a * y ∧ y * p.c ≤ x * p.d
def Hp (m n x y : Int) : Prop := 0 < m * x + n * y
theorem bf_trans {m n x y z u v w : Int} (h1 : Hp m n x y) (h2 : Hp m n z u) (h3 : Hp m n v w) (a : y * z ≤ x * u) (b : u * v ≤ z * w) : y * v ≤ x * w := by
  unfold Hp at *
  have p1 := Int.mul_nonneg (show 0 ≤ x * u - y * z by omega) (Int.le_of_lt h3)
  have p2 := Int.mul_nonneg (show 0 ≤ z * w - u * v by omega) (Int.le_of_lt h1)
  have e : (x * u - y * z) * (m * v + n * w) + (z * w - u * v) * (m * x + n * y) = (x * w - y * v) * (m * z + n * u) := by grind
  apply Classical.byContradiction
  intro c
  have := Int.mul_neg_of_neg_of_pos (show x * w - y * v < 0 by omega) h2
  omega
theorem stp_new {m n : Int} {p : Fo} {x y : Int} : Cov (stp p x y) x y := by
  unfold Cov stp befI
  dsimp only
  constructor
  · split
    · rw [Int.mul_comm y x]
      exact Int.le_refl _
    · rename_i h
      have h : ¬ x * p.b ≥ y * p.a := by simpa using h
      rw [Int.mul_comm p.b x, Int.mul_comm p.a y]
      omega
  · split
    · rw [Int.mul_comm y x]
      exact Int.le_refl _
    · rename_i h
      have h : ¬ p.c * y ≥ p.d * x := by simpa using h
      rw [Int.mul_comm y p.c, Int.mul_comm x p.d]
      omega
theorem stp_old {m n : Int} {p : Fo} {x y z u : Int} (hf : Hp m n p.a p.b) (hl : Hp m n p.c p.d) (h1 : Hp m n x y) (h2 : Hp m n z u) (k : Cov p z u) : Cov (stp p x y) z u := by
  unfold Cov stp befI at *
  dsimp only
  constructor
  · split
    · rename_i h
      have h : x * p.b ≥ y * p.a := by simpa using h
      exact bf_trans h1 hf h2 h k.1
    · exact k.1
  · split
    · rename_i h
      have h : p.c * y ≥ p.d * x := by simpa using h
      exact bf_trans h2 hl h1 k.2 h
    · exact k.2
theorem stp_hp {m n : Int} {p : Fo} {x y : Int} (hf : Hp m n p.a p.b) (hl : Hp m n p.c p.d) (h1 : Hp m n x y) : Hp m n (stp p x y).a (stp p x y).b ∧ Hp m n (stp p x y).c (stp p x y).d := by
  unfold stp
  dsimp only
  constructor
  · split <;> assumption
  · split <;> assumption
theorem fo4_cov {m n yl yh xl xh : Int} (h1 : Hp m n xl yl) (h2 : Hp m n xl yh) (h3 : Hp m n xh yl) (h4 : Hp m n xh yh) :
    (Hp m n (fo4 yl yh xl xh).a (fo4 yl yh xl xh).b ∧ Hp m n (fo4 yl yh xl xh).c (fo4 yl yh xl xh).d) ∧ Cov (fo4 yl yh xl xh) xl yl ∧ Cov (fo4 yl yh xl xh) xl yh ∧ Cov (fo4 yl yh xl xh) xh yl ∧ Cov (fo4 yl yh xl xh) xh yh := by
  have a := stp_hp (p := ⟨xl, yl, xl, yl⟩) h1 h1 h1
  have a1 : Cov (fo1 yl xl) xl yl := stp_new (m := m) (n := n)
  have b := stp_hp (p := fo1 yl xl) a.1 a.2 h2
  have b1 : Cov (fo2 yl yh xl) xl yl := stp_old a.1 a.2 h2 h1 a1
  have b2 : Cov (fo2 yl yh xl) xl yh := stp_new (m := m) (n := n)
  have c := stp_hp (p := fo2 yl yh xl) b.1 b.2 h3
  have c1 : Cov (fo3 yl yh xl xh) xl yl := stp_old b.1 b.2 h3 h1 b1
  have c2 : Cov (fo3 yl yh xl xh) xl yh := stp_old b.1 b.2 h3 h2 b2
  have c3 : Cov (fo3 yl yh xl xh) xh yl := stp_new (m := m) (n := n)
  have d := stp_hp (p := fo3 yl yh xl xh) c.1 c.2 h4
  exact ⟨d, stp_old c.1 c.2 h4 h1 c1, stp_old c.1 c.2 h4 h2 c2, stp_old c.1 c.2 h4 h3 c3, stp_new (m := m) (n := n)⟩
theorem lin_form {m n yl yh xl xh : Int} {k : Int} {x y : Rl} (x0 : ri xl ≤ x) (x1 : x ≤ ri xh) (y0 : ri yl ≤ y) (y1 : y ≤ ri yh) (h1 : k ≤ m * xl + n * yl) (h2 : k ≤ m * xl + n * yh) (h3 : k ≤ m * xh + n * yl) (h4 : k ≤ m * xh + n * yh) : ri k ≤ ri m * x + ri n * y := by
  have h1 := ri_le.mpr h1
  have h2 := ri_le.mpr h2
  have h3 := ri_le.mpr h3
  have h4 := ri_le.mpr h4
  rw [ri_add, ri_mul, ri_mul] at h1 h2 h3 h4
  have a := (lin_box (c := ri m) x0 x1).2
  have b := (lin_box (c := ri n) y0 y1).2
  rw [rmul_comm _ (ri m), rmul_comm _ (ri m), rmul_comm _ (ri m)] at a
  rw [rmul_comm _ (ri n), rmul_comm _ (ri n), rmul_comm _ (ri n)] at b
  rcases a with a | a <;> rcases b with b | b <;> grind
theorem near_rep {x : Rl} (h : 0 < Cn x) : ∃ (k : Int) (t : Rl), x = t + ri (21600000 * k) ∧ -5400000 < t ∧ t < 5400000 := by
  have z := zero_lt_one
  obtain ⟨t, t0, t1, hc, hs⟩ := arg_ex (nrm x)
  obtain ⟨k, hk⟩ := same_dir hc.symm hs.symm
  by_cases c : t < 5400000
  · exact ⟨k, t, hk, by grind, c⟩
  · refine ⟨k + 1, t - 21600000, ?_, ?_, by grind⟩
    · rw [show 21600000 * (k + 1) = 21600000 * k + 21600000 by omega, ri_add, show ri 21600000 = (21600000 : Rl) from rfl, hk]
      grind
    · apply Classical.byContradiction
      intro d
      rw [← hc] at h
      by_cases e : t ≤ 10800000
      · have := Cn_le (x := 5400000) (y := t) (by grind) (by grind) e
        rw [Cn_Q] at this
        grind
      · have := Cn_le (x := 5400000) (y := 21600000 - t) (by grind) (by grind) (by grind)
        rw [Cn_Q, Cn_Tsub] at this
        grind
theorem way_nonneg {a t : Rl} (a0 : -5400000 < a) (a1 : a < 5400000) (t0 : -5400000 < t) (t1 : t < 5400000) (h : 0 ≤ Sn (t - a)) : a ≤ t := by
  apply Classical.byContradiction
  intro c
  have := Sn_pos (x := a - t) (by grind) (by grind)
  have e := Sn_neg (t - a)
  rw [show -(t - a) = a - t by grind] at e
  grind
theorem box_dir {m n yl yh xl xh : Int} (c1 : CnOk xl yl) (c2 : CnOk xl yh) (c3 : CnOk xh yl) (c4 : CnOk xh yh) (fok : CnOk (fo4 yl yh xl xh).a (fo4 yl yh xl xh).b ∧ CnOk (fo4 yl yh xl xh).c (fo4 yl yh xl xh).d)
    (h1 : Hp m n xl yl) (h2 : Hp m n xl yh) (h3 : Hp m n xh yl) (h4 : Hp m n xh yh) (hb : ¬ BoxO yl yh xl xh) {ρ θ : Rl} (hr : 0 < ρ) (x0 : ri xl ≤ ρ * Cn θ) (x1 : ρ * Cn θ ≤ ri xh) (y0 : ri yl ≤ ρ * Sn θ) (y1 : ρ * Sn θ ≤ ri yh) :
    ∃ θ', (Cn θ' = Cn θ ∧ Sn θ' = Sn θ ∧ ri (bL yl yh xl xh) - e8 ≤ θ' ∧ θ' ≤ ri (bH yl yh xl xh) + e8) ∧ ∃ r α, 0 < r ∧ 0 ≤ α ∧ α < 21600000 ∧ ri (fo4 yl yh xl xh).a = r * Cn α ∧ ri (fo4 yl yh xl xh).b = r * Sn α ∧ α ≤ θ' ∧ θ' < α + 10800000 := by
  have p8 := e8_pos
  have z := zero_lt_one
  have h8 := e8_eight
  have cov := fo4_cov h1 h2 h3 h4
  unfold bL bH
  rw [if_neg hb, if_neg hb]
  generalize fo4 yl yh xl xh = p at *
  obtain ⟨⟨nf, nl⟩, v1, v2, v3, v4⟩ := cov
  obtain ⟨rf, α, rf0, α0, α1, fx, fy, fl, fu, _⟩ := ang_near fok.1.pl
  obtain ⟨rl, β, rl0, β0, β1, lx, ly, ll, _, lu⟩ := ang_near fok.2.pl
  generalize angP p.a p.b = A at *
  generalize angP p.c p.d = B at *
  generalize (if exaP p.c p.d = true then (0 : Int) else 1) = ex at *
  have L1 := lin_form (m := -p.b) (n := p.a) (k := 0) x0 x1 y0 y1 (by have := v1.1; rw [Int.neg_mul]; omega) (by have := v2.1; rw [Int.neg_mul]; omega) (by have := v3.1; rw [Int.neg_mul]; omega) (by have := v4.1; rw [Int.neg_mul]; omega)
  have L2 := lin_form (m := p.d) (n := -p.c) (k := 0) x0 x1 y0 y1 (by have := v1.2; rw [Int.neg_mul, Int.mul_comm p.d, Int.mul_comm p.c]; omega) (by have := v2.2; rw [Int.neg_mul, Int.mul_comm p.d, Int.mul_comm p.c]; omega) (by have := v3.2; rw [Int.neg_mul, Int.mul_comm p.d, Int.mul_comm p.c]; omega) (by have := v4.2; rw [Int.neg_mul, Int.mul_comm p.d, Int.mul_comm p.c]; omega)
  have N0 := lin_form (m := m) (n := n) (k := 1) x0 x1 y0 y1 (by unfold Hp at h1; omega) (by unfold Hp at h2; omega) (by unfold Hp at h3; omega) (by unfold Hp at h4; omega)
  rw [ri_neg, ri_zero, fx, fy] at L1
  rw [ri_neg, ri_zero, lx, ly] at L2
  rw [ri_one] at N0
  have Nf := ri_lt.mpr nf
  have Nl := ri_lt.mpr nl
  rw [ri_zero, ri_add, ri_mul, ri_mul, fx, fy] at Nf
  rw [ri_zero, ri_add, ri_mul, ri_mul, lx, ly] at Nl
  obtain ⟨rn, ν, rn0, _, _, nx, ny⟩ := polar (X := ri m) (Y := ri n) (by
    by_cases e : ri m * ri m + ri n * ri n = 0
    · have s1 := sq_pos (ri m)
      have s2 := sq_pos (ri n)
      have e1 := le_of_sq (x := ri m) (y := 0) (by exact rle_refl _) (by grind)
      have e2 := le_of_sq (x := -ri m) (y := 0) (by exact rle_refl _) (by grind)
      have e3 := le_of_sq (x := ri n) (y := 0) (by exact rle_refl _) (by grind)
      have e4 := le_of_sq (x := -ri n) (y := 0) (by exact rle_refl _) (by grind)
      have m0 : ri m = 0 := by grind
      have n0 : ri n = 0 := by grind
      rw [m0, n0] at N0
      grind
    · have s1 := sq_pos (ri m)
      have s2 := sq_pos (ri n)
      grind)
  rw [nx, ny] at N0 Nf Nl
  have cθ : 0 < Cn (θ - ν) := by
    apply Classical.byContradiction
    intro c
    have := mul_nonneg (Std.le_of_lt (rmul_pos rn0 hr)) (show 0 ≤ -Cn (θ - ν) by grind)
    rw [Cn_sub] at this
    grind
  have cα : 0 < Cn (α - ν) := by
    apply Classical.byContradiction
    intro c
    have := mul_nonneg (Std.le_of_lt (rmul_pos rn0 rf0)) (show 0 ≤ -Cn (α - ν) by grind)
    rw [Cn_sub] at this
    grind
  have cβ : 0 < Cn (β - ν) := by
    apply Classical.byContradiction
    intro c
    have := mul_nonneg (Std.le_of_lt (rmul_pos rn0 rl0)) (show 0 ≤ -Cn (β - ν) by grind)
    rw [Cn_sub] at this
    grind
  have s1 : 0 ≤ Sn (θ - α) := by
    apply pos_of_mul (rmul_pos rf0 hr)
    rw [Sn_sub]
    grind
  have s2 : 0 ≤ Sn (β - θ) := by
    apply pos_of_mul (rmul_pos rl0 hr)
    rw [Sn_sub]
    grind
  obtain ⟨ka, a0, ea, a1, a2⟩ := near_rep cα
  obtain ⟨kt, t0, et, t1, t2⟩ := near_rep cθ
  obtain ⟨kb, b0, eb, b1, b2⟩ := near_rep cβ
  have w1 : a0 ≤ t0 := way_nonneg a1 a2 t1 t2 (by
    have := (Cn_turns (t0 - a0) (kt - ka)).2
    rw [show 21600000 * (kt - ka) = 21600000 * kt - 21600000 * ka by omega, ri_sub, show t0 - a0 + (ri (21600000 * kt) - ri (21600000 * ka)) = θ - α by grind] at this
    rw [← this]
    exact s1)
  have w2 : t0 ≤ b0 := way_nonneg t1 t2 b1 b2 (by
    have := (Cn_turns (b0 - t0) (kb - kt)).2
    rw [show 21600000 * (kb - kt) = 21600000 * kb - 21600000 * kt by omega, ri_sub, show b0 - t0 + (ri (21600000 * kb) - ri (21600000 * kt)) = β - θ by grind] at this
    rw [← this]
    exact s2)
  refine ⟨α + (t0 - a0), ⟨?_, ?_, by grind, ?_⟩, rf, α, rf0, α0, α1, fx, fy, by grind, by grind⟩
  · have := (Cn_turns (α + (t0 - a0)) (kt - ka)).1
    rw [show 21600000 * (kt - ka) = 21600000 * kt - 21600000 * ka by omega, ri_sub, show α + (t0 - a0) + (ri (21600000 * kt) - ri (21600000 * ka)) = θ by grind] at this
    exact this.symm
  · have := (Cn_turns (α + (t0 - a0)) (kt - ka)).2
    rw [show 21600000 * (kt - ka) = 21600000 * kt - 21600000 * ka by omega, ri_sub, show α + (t0 - a0) + (ri (21600000 * kt) - ri (21600000 * ka)) = θ by grind] at this
    exact this.symm
  · -- the last corner's angle, but for a turn
    have tt : ri 21600000 = (21600000 : Rl) := rfl
    have eT : ri (21600000 * (ka - kb)) = 21600000 * ri (ka - kb) := by rw [ri_mul]; rfl
    have eab : α + (b0 - a0) = β + 21600000 * ri (ka - kb) := by
      rw [← eT, show 21600000 * (ka - kb) = 21600000 * ka - 21600000 * kb by omega, ri_sub]
      grind
    have j0 : ri (-1) < ri (ka - kb) := by rw [ri_neg, ri_one]; grind
    have j1 : ri (ka - kb) < ri 2 := by rw [ri_two]; grind
    rw [ri_lt] at j0 j1
    rw [ri_add] at lu ⊢
    by_cases c : ka - kb = 0
    · rw [c, ri_zero] at eab
      by_cases d : B < A
      · rw [if_pos d, ri_add, tt]
        grind
      · rw [if_neg d]
        grind
    · have c1 : ka - kb = 1 := by omega
      rw [c1, ri_one] at eab
      have d : B < A := by
        apply ri_lt.mp
        grind
      rw [if_pos d, ri_add, tt]
      grind
theorem box_real2 {yl yh xl xh : Int} (hy : FixV yl yh) (hx : FixV xl xh) (hb : ¬ BoxO yl yh xl xh) {ρ θ : Rl} (hr : 0 < ρ) (ey : Enc yl yh (ρ * Sn θ)) (ex : Enc xl xh (ρ * Cn θ)) :
    ∃ θ', (Cn θ' = Cn θ ∧ Sn θ' = Sn θ ∧ ri (bL yl yh xl xh) - e8 ≤ θ' ∧ θ' ≤ ri (bH yl yh xl xh) + e8) ∧ ∃ r α, 0 < r ∧ 0 ≤ α ∧ α < 21600000 ∧ ri (fo4 yl yh xl xh).a = r * Cn α ∧ ri (fo4 yl yh xl xh).b = r * Sn α ∧ α ≤ θ' ∧ θ' < α + 10800000 := by
  obtain ⟨c1, c2, c3, c4⟩ := box_corners hy hx hb
  have fok : FoOk (fo4 yl yh xl xh) := stp_ok (stp_ok (stp_ok (stp_ok (p := ⟨xl, yl, xl, yl⟩) ⟨c1, c1⟩ c1) c2) c3) c4
  obtain ⟨ey1, ey2⟩ := ey
  obtain ⟨ex1, ex2⟩ := ex
  have big : 0 < 1073741824 * ρ := rmul_pos big_pos hr
  have go := fun m n (h1 : Hp m n xl yl) (h2 : Hp m n xl yh) (h3 : Hp m n xh yl) (h4 : Hp m n xh yh) =>
    box_dir c1 c2 c3 c4 ⟨fok.1, fok.2⟩ h1 h2 h3 h4 hb big (θ := θ) (by grind) (by grind) (by grind) (by grind)
  have l1 := hy.2.1
  have l2 := hx.2.1
  have hb : ¬ (xl ≤ 0 ∧ 0 ≤ xh ∧ yl ≤ 0 ∧ 0 ≤ yh) := hb
  by_cases q1 : 0 < xl
  · exact go 1 0 (by unfold Hp; omega) (by unfold Hp; omega) (by unfold Hp; omega) (by unfold Hp; omega)
  · by_cases q2 : xh < 0
    · exact go (-1) 0 (by unfold Hp; omega) (by unfold Hp; omega) (by unfold Hp; omega) (by unfold Hp; omega)
    · by_cases q3 : 0 < yl
      · exact go 0 1 (by unfold Hp; omega) (by unfold Hp; omega) (by unfold Hp; omega) (by unfold Hp; omega)
      · exact go 0 (-1) (by unfold Hp; omega) (by unfold Hp; omega) (by unfold Hp; omega) (by unfold Hp; omega)
theorem box_real {yl yh xl xh : Int} (hy : FixV yl yh) (hx : FixV xl xh) {ρ θ : Rl} (hr : 0 < ρ) (ey : Enc yl yh (ρ * Sn θ)) (ex : Enc xl xh (ρ * Cn θ)) : ∃ θ', Cn θ' = Cn θ ∧ Sn θ' = Sn θ ∧ ri (bL yl yh xl xh) - e8 ≤ θ' ∧ θ' ≤ ri (bH yl yh xl xh) + e8 := by
  by_cases hb : BoxO yl yh xl xh
  · obtain ⟨x, x0, x1, hc, hs⟩ := arg_ex (nrm θ)
    refine ⟨x, hc, hs, ?_, ?_⟩
    · unfold bL
      rw [if_pos hb, ri_zero]
      have := e8_pos
      grind
    · unfold bH
      rw [if_pos hb, show ri 21600000 = (21600000 : Rl) from rfl]
      have := e8_pos
      grind
  · obtain ⟨θ', h, _⟩ := box_real2 hy hx hb hr ey ex
    exact ⟨θ', h⟩
theorem stp_q {p : Fo} {x y : Int} (h : 0 ≤ p.a ∧ 0 ≤ p.b) (k : 0 ≤ x ∧ 0 ≤ y) : 0 ≤ (stp p x y).a ∧ 0 ≤ (stp p x y).b := by
  unfold stp
  dsimp only
  split
  · exact k
  · exact h
theorem box_first {yl yh xl xh : Int} (hy : FixV yl yh) (hx : FixV xl xh) (hb : ¬ BoxO yl yh xl xh) (y0 : 0 ≤ yl) (x0 : 0 ≤ xl) {ρ θ : Rl} (hr : 0 < ρ) (t0 : 0 ≤ θ) (t1 : θ ≤ 5400000) (ey : Enc yl yh (ρ * Sn θ)) (ex : Enc xl xh (ρ * Cn θ)) : ri (bL yl yh xl xh) - e8 ≤ θ ∧ θ ≤ ri (bH yl yh xl xh) + e8 := by
  obtain ⟨θ', ⟨hc, hs, h1, h2⟩, r, α, r0, α0, α1, fa, fb, l1, l2⟩ := box_real2 hy hx hb hr ey ex
  have f : 0 ≤ (fo4 yl yh xl xh).a ∧ 0 ≤ (fo4 yl yh xl xh).b := stp_q (stp_q (stp_q (stp_q (p := ⟨xl, yl, xl, yl⟩) ⟨x0, y0⟩ ⟨x0, y0⟩) ⟨x0, by have := hy.2.1; omega⟩) ⟨by have := hx.2.1; omega, y0⟩) ⟨by have := hx.2.1; omega, by have := hy.2.1; omega⟩
  have fa0 := ri_le.mpr f.1
  have fb0 := ri_le.mpr f.2
  rw [ri_zero, fa] at fa0
  rw [ri_zero, fb] at fb0
  have ca := pos_of_mul r0 fa0
  have sa := pos_of_mul r0 fb0
  have z := zero_lt_one
  have αQ : α ≤ 5400000 := by
    have xH : α ≤ 10800000 := by
      apply Classical.byContradiction
      intro c
      have := Sn_pos (x := α - 10800000) (by grind) (by grind)
      have e := Sn_addH (α - 10800000)
      rw [show α - 10800000 + 10800000 = α by grind] at e
      grind
    apply Classical.byContradiction
    intro c
    have := Cn_lt (x := 5400000) (y := α) (by grind) (by grind) xH
    rw [Cn_Q] at this
    grind
  obtain ⟨n, hn⟩ := same_dir hc hs
  have e : ri (21600000 * n) = 21600000 * ri n := by rw [ri_mul]; rfl
  have n0 : ri (-1) < ri n := by rw [ri_neg, ri_one]; grind
  have n1 : ri n < ri 1 := by rw [ri_one]; grind
  rw [ri_lt] at n0 n1
  have nz : n = 0 := by omega
  rw [nz, show (21600000 : Int) * 0 = 0 from rfl, ri_zero] at hn
  have : θ' = θ := by grind
  rw [this] at h1 h2
  exact ⟨h1, h2⟩
end Go.Proofs.YtjdcicjhpegphaaGreat
namespace Go.Proofs.YtjdcicjhpegphaaGreat
open Go.Sine Go.Re
def EncP (p : Int × Int) (x : Rl) : Prop := Enc p.1 p.2 x
def ArcP (p : Int × Int) (x : Rl) : Prop := Arc p.1 p.2 x
theorem encP_mul {p q : Int × Int} {x y : Rl} (h : EncP p x) (k : EncP q y) : EncP (mulP p q) (x * y) := enc_mul h k
theorem encP_add {p q : Int × Int} {x y : Rl} (h : EncP p x) (k : EncP q y) : EncP (addP p q) (x + y) := enc_add h k
theorem encP_sub {p q : Int × Int} {x y : Rl} (h : EncP p x) (k : EncP q y) : EncP (subP p q) (x - y) := enc_sub h k
theorem encP_sin {a b : Int} {x : Rl} (hab : a ≤ b) (h : Arc a b x) : EncP (sinT a b) (Sn x) := enc_sin hab h
theorem encP_cos {a b : Int} {x : Rl} (hab : a ≤ b) (h : Arc a b x) : EncP (cosT a b) (Cn x) := enc_cos hab h
theorem arc_le {a b : Int} {x : Rl} (h : Arc a b x) : a ≤ b := ri_le.mp (rle_trans _ _ _ h.1 h.2)
def havT (a b : Int) : Int × Int := (hvL a b, hvH a b)
noncomputable def hav (x : Rl) : Rl := hf (1 - Cn x)
theorem hav_two (x : Rl) : 2 * hav x = 1 - Cn x := by
  have := hf_two (1 - Cn x)
  unfold hav
  grind
theorem encP_hav {a b : Int} {x : Rl} (hab : a ≤ b) (h : Arc a b x) : EncP (havT a b) (hav x) := enc_hav hab h (hav_two x)
theorem cos_okI {a b : Int} (h : a ≤ b) : (-1073741824 ≤ cL a b ∧ cL a b ≤ cH a b ∧ cH a b ≤ 1073741824) := cos_ok h
theorem hav_ok {a b : Int} (h : a ≤ b) : OkP (havT a b) := by
  have c := cos_okI h
  show -1073741824 ≤ hvL a b ∧ hvL a b ≤ hvH a b ∧ hvH a b ≤ 1073741824
  unfold hvL hvH
  omega
def dsS (p l q m : Int) : Int × Int := addP (havT (q - p) (q - p)) (mulP (mulP (cosT p p) (cosT q q)) (havT (sgI (m - l)) (sgI (m - l))))
def dsP (p l q m : Int) : Int × Int := (ahL (dsS p l q m).1, ahH (dsS p l q m).2)
def crY (p l q m : Int) : Int × Int := mulP (sinT (sgI (m - l)) (sgI (m - l))) (cosT q q)
def crX (p l q m : Int) : Int × Int := subP (mulP (cosT p p) (sinT q q)) (mulP (mulP (sinT p p) (cosT q q)) (cosT (sgI (m - l)) (sgI (m - l))))
def crP (p l q m : Int) : Int × Int := (bL (crY p l q m).1 (crY p l q m).2 (crX p l q m).1 (crX p l q m).2, bH (crY p l q m).1 (crY p l q m).2 (crX p l q m).1 (crX p l q m).2)
theorem sg_real (n : Int) : Cn (ri (sgI n)) = Cn (ri n) ∧ Sn (ri (sgI n)) = Sn (ri n) := by
  have e : ∃ k : Int, n = sgI n + 21600000 * k := by
    unfold sgI
    split
    · exact ⟨n / 21600000 + 1, by omega⟩
    · exact ⟨n / 21600000, by omega⟩
  obtain ⟨k, hk⟩ := e
  have := Cn_turns (ri (sgI n)) k
  rw [← ri_add, ← hk] at this
  exact ⟨this.1.symm, this.2.symm⟩
theorem one_le (n : Int) : n ≤ n := Int.le_refl n
theorem ds_sum (p l q m : Int) : ∃ y, 2 * y = 1 - dot (ri p) (ri l) (ri q) (ri m) ∧ EncP (dsS p l q m) y := by
  refine ⟨hav (ri (q - p)) + Cn (ri p) * Cn (ri q) * hav (ri (sgI (m - l))), ?_, ?_⟩
  · have a := hav_two (ri (q - p))
    have b := hav_two (ri (sgI (m - l)))
    rw [(sg_real _).1, ri_sub] at b
    have a2 : Cn (ri (q - p)) = Cn (ri q) * Cn (ri p) + Sn (ri q) * Sn (ri p) := by rw [ri_sub, Cn_sub]
    rw [a2] at a
    unfold dot
    generalize hav (ri (q - p)) = u at *
    generalize hav (ri (sgI (m - l))) = v at *
    have : 2 * (u + Cn (ri p) * Cn (ri q) * v) = 2 * u + Cn (ri p) * Cn (ri q) * (2 * v) := by grind
    rw [this, b, a]
    grind
  · exact encP_add (encP_hav (one_le _) (arc_one _)) (encP_mul (encP_mul (encP_cos (one_le _) (arc_one _)) (encP_cos (one_le _) (arc_one _))) (encP_hav (one_le _) (arc_one _)))
theorem dot_range (p l q m : Rl) : -1 ≤ dot p l q m ∧ dot p l q m ≤ 1 := by
  have c := course_len p l q m
  have s1 := sq_pos (nor p l q m)
  have s2 := sq_pos (eas p l q m)
  have z := zero_lt_one
  have a := le_of_sq (x := dot p l q m) (y := 1) (by grind) (by grind)
  have b := le_of_sq (x := -dot p l q m) (y := 1) (by grind) (by grind)
  grind
theorem ds_real (p l q m : Int) : ∃ α, 0 ≤ α ∧ α ≤ 10800000 ∧ Cn α = dot (ri p) (ri l) (ri q) (ri m) ∧ ArcP (dsP p l q m) α := by
  have r := dot_range (ri p) (ri l) (ri q) (ri m)
  obtain ⟨α, a0, a1, ha⟩ := acos_ex r.1 r.2
  obtain ⟨y, hy, e⟩ := ds_sum p l q m
  rw [← ha] at hy
  exact ⟨α, a0, a1, ha, arc_ahav a0 a1 hy e⟩
theorem ds_ahav (p l q m : Int) : FixV (dsS p l q m).1 (dsS p l q m).2 ∧ (dsS p l q m).1 ≤ 1073741824 ∧ 0 ≤ (dsS p l q m).2 := by
  obtain ⟨y, hy, e⟩ := ds_sum p l q m
  have r := dot_range (ri p) (ri l) (ri q) (ri m)
  have big := big_pos
  have z := zero_lt_one
  refine ⟨add_v (hav_ok (one_le _)) (mul_ok (mul_ok (cos_ok (one_le _)) (cos_ok (one_le _))) (hav_ok (one_le _))), ?_, ?_⟩
  · apply ri_le.mp
    rw [one_big]
    have := e.1
    grind
  · apply ri_le.mp
    rw [ri_zero]
    have := e.2
    grind
theorem ds_range (p l q m : Int) : 0 ≤ (dsP p l q m).1 ∧ (dsP p l q m).1 ≤ (dsP p l q m).2 ∧ (dsP p l q m).2 ≤ 10800000 := by
  have h := ah_range (dsS p l q m).1 (dsS p l q m).2
  obtain ⟨α, _, _, _, k⟩ := ds_real p l q m
  exact ⟨h.1.1, arc_le k, h.2.2⟩
theorem cr_fix (p l q m : Int) : FixV (crY p l q m).1 (crY p l q m).2 ∧ FixV (crX p l q m).1 (crX p l q m).2 := by
  constructor
  · exact FixO.v (mul_ok (sin_ok (one_le _)) (cos_ok (one_le _)))
  · exact sub_v (mul_ok (cos_ok (one_le _)) (sin_ok (one_le _))) (mul_ok (mul_ok (sin_ok (one_le _)) (cos_ok (one_le _))) (cos_ok (one_le _)))
theorem cr_real (p l q m : Int) {ρ θ : Rl} (hr : 0 < ρ) (hn : nor (ri p) (ri l) (ri q) (ri m) = ρ * Cn θ) (he : eas (ri p) (ri l) (ri q) (ri m) = ρ * Sn θ) : ∃ θ', Cn θ' = Cn θ ∧ Sn θ' = Sn θ ∧ ri (crP p l q m).1 - e8 ≤ θ' ∧ θ' ≤ ri (crP p l q m).2 + e8 := by
  obtain ⟨fy, fx⟩ := cr_fix p l q m
  refine box_real fy fx hr ?_ ?_
  · rw [← he]
    unfold eas
    rw [← ri_sub, ← (sg_real (m - l)).2]
    exact encP_mul (encP_sin (one_le _) (arc_one _)) (encP_cos (one_le _) (arc_one _))
  · rw [← hn]
    unfold nor
    rw [← ri_sub, ← (sg_real (m - l)).1]
    exact encP_sub (encP_mul (encP_cos (one_le _) (arc_one _)) (encP_sin (one_le _) (arc_one _))) (encP_mul (encP_mul (encP_sin (one_le _) (arc_one _)) (encP_cos (one_le _) (arc_one _))) (encP_cos (one_le _) (arc_one _)))
theorem cr_range (p l q m : Int) : 0 ≤ (crP p l q m).1 ∧ (crP p l q m).1 < 21600000 ∧ (crP p l q m).1 ≤ (crP p l q m).2 ∧ (crP p l q m).2 ≤ 43200000 := by
  have h := b_range (crY p l q m).1 (crY p l q m).2 (crX p l q m).1 (crX p l q m).2
  have e1 : (crP p l q m).1 = bL (crY p l q m).1 (crY p l q m).2 (crX p l q m).1 (crX p l q m).2 := rfl
  have e2 : (crP p l q m).2 = bH (crY p l q m).1 (crY p l q m).2 (crX p l q m).1 (crX p l q m).2 := rfl
  rw [e1, e2]
  generalize bL (crY p l q m).1 (crY p l q m).2 (crX p l q m).1 (crX p l q m).2 = x at *
  generalize bH (crY p l q m).1 (crY p l q m).2 (crX p l q m).1 (crX p l q m).2 = y at *
  omega
theorem meets_allR : MeetsAll := by
  intro l l' d d' h h' v
  obtain ⟨⟨v1, v2, v3⟩, ⟨v4, v5, v6⟩, v7, v8, v9⟩ := v
  have arc : ∀ {a b : Int}, a ≤ b → Arc a b (ri a) := fun h => ⟨rle_refl _, ri_le.mpr h⟩
  have e : EncP (sAl l l' d d' h h') (Sn (ri l) * Sn (ri d) + Cn (ri l) * Cn (ri d) * Cn (ri h)) :=
    encP_add (encP_mul (encP_sin v1 (arc v1)) (encP_sin v4 (arc v4))) (encP_mul (encP_mul (encP_cos v1 (arc v1)) (encP_cos v4 (arc v4))) (encP_cos v8 (arc v8)))
  have r := dot_range (ri l) 0 (ri d) (ri h)
  have r : -1 ≤ Cn (ri l) * Cn (ri d) * Cn (ri h - 0) + Sn (ri l) * Sn (ri d) ∧ Cn (ri l) * Cn (ri d) * Cn (ri h - 0) + Sn (ri l) * Sn (ri d) ≤ 1 := r
  have z : ri h - 0 = ri h := by grind
  rw [z] at r
  have big := big_pos
  obtain ⟨e1, e2⟩ := e
  constructor
  · apply ri_le.mp
    rw [one_big]
    grind
  · apply ri_le.mp
    rw [show (-1073741824 : Int) = -(1073741824) from rfl, ri_neg, one_big]
    grind
def hfP (p : Int × Int) : Int × Int := (p.1 / 2, -(-p.2 / 2))
def dfP (p q : Int × Int) : Int × Int := (p.1 - q.2, p.2 - q.1)
def smP (p q : Int × Int) : Int × Int := (p.1 + q.1, p.2 + q.2)
theorem arcP_add {p q : Int × Int} {x y : Rl} (h : ArcP p x) (k : ArcP q y) : ArcP (smP p q) (x + y) := by
  unfold ArcP Arc smP at *
  dsimp only
  rw [ri_add, ri_add]
  grind
theorem arcP_sub {p q : Int × Int} {x y : Rl} (h : ArcP p x) (k : ArcP q y) : ArcP (dfP p q) (x - y) := by
  unfold ArcP Arc dfP at *
  dsimp only
  rw [ri_sub, ri_sub]
  grind
theorem arcP_half {p : Int × Int} {x : Rl} (h : ArcP p x) : ArcP (hfP p) (hf x) := by
  obtain ⟨h1, h2⟩ := h
  have t := hf_two x
  have l1 : ri (2 * (p.1 / 2)) ≤ ri p.1 := ri_le.mpr (by omega)
  have l2 : ri p.2 ≤ ri (2 * -(-p.2 / 2)) := ri_le.mpr (by omega)
  rw [ri_mul, ri_two] at l1 l2
  constructor
  · show ri (p.1 / 2) ≤ hf x
    grind
  · show hf x ≤ ri (-(-p.2 / 2))
    grind
def agTop (a b c : Int × Int) : Int × Int := mulP (sinT (hfP (dfP (smP a c) b)).1 (hfP (dfP (smP a c) b)).2) (sinT (hfP (dfP (smP a b) c)).1 (hfP (dfP (smP a b) c)).2)
def agLow (b c : Int × Int) : Int × Int := mulP (sinT b.1 b.2) (sinT c.1 c.2)
def agQ (a b c : Int × Int) : Int × Int := (dvL (agTop a b c).1 (agTop a b c).2 (agLow b c).1 (agLow b c).2, dvH (agTop a b c).1 (agTop a b c).2 (agLow b c).1 (agLow b c).2)
def agP (a b c : Int × Int) : Int × Int := (ahL (agQ a b c).1, ahH (agQ a b c).2)
theorem ag_low {b c : Int × Int} {β γ : Rl} (hb : ArcP b β) (hc : ArcP c γ) : EncP (agLow b c) (Sn β * Sn γ) := encP_mul (encP_sin (arc_le hb) hb) (encP_sin (arc_le hc) hc)
theorem ag_low0 {b c : Int × Int} {α β γ : Rl} (t : Tri α β γ) (hb : ArcP b β) (hc : ArcP c γ) : 0 ≤ (agLow b c).2 := by
  have e := (ag_low hb hc).2
  have p := mul_nonneg (Sn_nonneg t.b0 t.b1) (Sn_nonneg t.c0 t.c1)
  have := mul_nonneg (Std.le_of_lt big_pos) p
  apply ri_le.mp
  rw [ri_zero]
  grind
theorem ag_real {a b c : Int × Int} {α β γ : Rl} (t : Tri α β γ) (ha : ArcP a α) (hb : ArcP b β) (hc : ArcP c γ) (hl : 0 < (agLow b c).1) : (0 < Sn β ∧ 0 < Sn γ) ∧ ((agQ a b c).1 ≤ 1073741824 ∧ 0 ≤ (agQ a b c).2) ∧ ∃ A, IsAng A α β γ ∧ ArcP (agP a b c) A := by
  have el := ag_low hb hc
  have big := big_pos
  have nb := Sn_nonneg t.b0 t.b1
  have nc := Sn_nonneg t.c0 t.c1
  have pos : 0 < Sn β * Sn γ := by
    have := ri_lt.mpr hl
    rw [ri_zero] at this
    have := el.1
    apply Classical.byContradiction
    intro q
    have := mul_nonneg (Std.le_of_lt big) (show 0 ≤ -(Sn β * Sn γ) by grind)
    grind
  have sb : 0 < Sn β := by
    by_cases z : Sn β = 0
    · rw [z] at pos
      grind
    · grind
  have sc : 0 < Sn γ := by
    by_cases z : Sn γ = 0
    · rw [z] at pos
      grind
    · grind
  obtain ⟨A, hA⟩ := t.ang sb sc
  have hq : hav A * (Sn β * Sn γ) = Sn (hf (α + γ - β)) * Sn (hf (α + β - γ)) := by
    have h := hA.half.1
    have v := hav_two A
    rw [← v] at h
    grind
  have et : EncP (agTop a b c) (Sn (hf (α + γ - β)) * Sn (hf (α + β - γ))) := by
    have x := arcP_half (arcP_sub (arcP_add ha hc) hb)
    have y := arcP_half (arcP_sub (arcP_add ha hb) hc)
    exact encP_mul (encP_sin (arc_le x) x) (encP_sin (arc_le y) y)
  have e : Enc (agQ a b c).1 (agQ a b c).2 (hav A) := enc_div hl et el hq
  have v := hav_two A
  have r := Cn_range A
  refine ⟨⟨sb, sc⟩, ⟨?_, ?_⟩, A, hA, arc_ahav hA.1 hA.2.1 v e⟩
  · apply ri_le.mp
    rw [one_big]
    have := e.1
    grind
  · apply ri_le.mp
    rw [ri_zero]
    have := e.2
    grind
theorem ag_range (a b c : Int × Int) : (0 ≤ (agP a b c).1 ∧ (agP a b c).1 ≤ 10800000) ∧ 0 ≤ (agP a b c).2 ∧ (agP a b c).2 ≤ 10800000 := ah_range _ _
def AgrI (a b : Int × Int) : Prop := (b.1 - a.1) % 21600000 ≤ a.2 - a.1 ∨ (a.1 - b.1) % 21600000 ≤ b.2 - b.1
theorem agr_of {a b : Int × Int} (n : Int) (h1 : a.1 ≤ b.2 + 21600000 * n) (h2 : b.1 + 21600000 * n ≤ a.2) : AgrI a b := by
  unfold AgrI
  by_cases c : a.1 ≤ b.1 + 21600000 * n
  · left
    omega
  · right
    omega
theorem agree_real {x y t : Int × Int} {θ φ A : Rl} (hx : ri x.1 - e8 ≤ θ ∧ θ ≤ ri x.2 + e8) (hy : ri y.1 - e8 ≤ φ ∧ φ ≤ ri y.2 + e8) (ht : ArcP t A) (hc : Cn (θ - φ) = Cn A) : AgrI (dfP x y) t ∨ AgrI (dfP x y) (-t.2, -t.1) := by
  have h8 := e8_eight
  have z := zero_lt_one
  obtain ⟨t1, t2⟩ := ht
  have near : ∀ u v : Int, ri u < ri v + 1 → u ≤ v := fun u v h => by
    have h : ri u < ri (v + 1) := by rw [ri_add, ri_one]; exact h
    rw [ri_lt] at h
    omega
  obtain ⟨n, hn | hn⟩ := same_cos hc
  · left
    refine agr_of n ?_ ?_
    · apply near
      show ri (x.1 - y.2) < _
      rw [ri_sub, ri_add]
      grind
    · apply near
      show _ < ri (x.2 - y.1) + 1
      rw [ri_sub, ri_add]
      grind
  · right
    refine agr_of n ?_ ?_
    · apply near
      show ri (x.1 - y.2) < ri (-t.1 + 21600000 * n) + 1
      rw [ri_sub, ri_add, ri_neg]
      grind
    · apply near
      show ri (-t.2 + 21600000 * n) < ri (x.2 - y.1) + 1
      rw [ri_sub, ri_add, ri_neg]
      grind
end Go.Proofs.YtjdcicjhpegphaaGreat
namespace Go.Proofs.YtjdcicjhpegphaaGreat
open Go.Sine Go.Re
def rtF (n : Int) : Nat → Int → Int → Int
  | 0, _, k => k
  | f + 1, b, k => rtF n f (b / 2) (if (k + b) * (k + b) ≤ n then k + b else k)
def rtI (n : Int) : Int := rtF n 32 2147483648 0
theorem rtF_all (n : Int) : ∀ (f : Nat) (k : Int), 0 ≤ k → k * k ≤ n → n < (k + 2 * 2 ^ f) * (k + 2 * 2 ^ f) → 0 ≤ rtF n (f + 1) (2 ^ f) k ∧ rtF n (f + 1) (2 ^ f) k * rtF n (f + 1) (2 ^ f) k ≤ n ∧ n < (rtF n (f + 1) (2 ^ f) k + 1) * (rtF n (f + 1) (2 ^ f) k + 1)
  | 0, k, k0, h1, h2 => by
    have e : (2 : Int) ^ 0 = 1 := rfl
    rw [e] at h2 ⊢
    show 0 ≤ (if (k + 1) * (k + 1) ≤ n then k + 1 else k) ∧ (if (k + 1) * (k + 1) ≤ n then k + 1 else k) * (if (k + 1) * (k + 1) ≤ n then k + 1 else k) ≤ n ∧ n < ((if (k + 1) * (k + 1) ≤ n then k + 1 else k) + 1) * ((if (k + 1) * (k + 1) ≤ n then k + 1 else k) + 1)
    split
    · rename_i c
      refine ⟨by omega, c, ?_⟩
      have : k + 1 + 1 = k + 2 * 1 := by omega
      rw [this]
      exact h2
    · rename_i c
      exact ⟨k0, h1, by omega⟩
  | f + 1, k, k0, h1, h2 => by
    have e : (2 : Int) ^ (f + 1) / 2 = 2 ^ f := by rw [Int.pow_succ]; omega
    have p : (0 : Int) < 2 ^ f := Int.pow_pos (by decide)
    have d : (2 : Int) ^ (f + 1) = 2 * 2 ^ f := by rw [Int.pow_succ]; omega
    have un : rtF n (f + 1 + 1) (2 ^ (f + 1)) k = rtF n (f + 1) (2 ^ f) (if (k + 2 ^ (f + 1)) * (k + 2 ^ (f + 1)) ≤ n then k + 2 ^ (f + 1) else k) := by
      show rtF n (f + 1) (2 ^ (f + 1) / 2) _ = _
      rw [e]
    rw [un]
    split
    · rename_i c
      refine rtF_all n f _ (by omega) c ?_
      have : k + 2 ^ (f + 1) + 2 * 2 ^ f = k + 2 * 2 ^ (f + 1) := by omega
      rw [this]
      exact h2
    · rename_i c
      refine rtF_all n f _ k0 h1 ?_
      rw [← d]
      omega
theorem rt_all {n : Int} (h0 : 0 ≤ n) (h1 : n < 18446744073709551616) : 0 ≤ rtI n ∧ rtI n * rtI n ≤ n ∧ n < (rtI n + 1) * (rtI n + 1) := rtF_all n 31 0 (by decide) h0 (by
  have : ((0 : Int) + 2 * 2 ^ 31) * (0 + 2 * 2 ^ 31) = 18446744073709551616 := by decide
  omega)
def rtU (n : Int) : Int := if rtI n * rtI n < n then rtI n + 1 else rtI n
def sqP (p : Int × Int) : Int × Int := (rtI (max 0 p.1 * 1073741824), rtU (p.2 * 1073741824))
theorem rtU_all {n : Int} (h0 : 0 ≤ n) (h1 : n < 18446744073709551616) : 0 ≤ rtU n ∧ n ≤ rtU n * rtU n := by
  have r := rt_all h0 h1
  unfold rtU
  split
  · exact ⟨by omega, by omega⟩
  · exact ⟨r.1, by omega⟩
theorem rt_mono {m n : Int} (h0 : 0 ≤ m) (h : m ≤ n) (h1 : n < 18446744073709551616) : rtI m ≤ rtI n := by
  have a := rt_all h0 (by omega)
  have b := rt_all (show 0 ≤ n by omega) h1
  apply Classical.byContradiction
  intro c
  have : (rtI n + 1) * (rtI n + 1) ≤ rtI m * rtI m := Int.mul_le_mul (by omega) (by omega) (by omega) a.1
  omega
theorem rt_le {n : Int} (h0 : 0 ≤ n) (h : n ≤ 1152921504606846976) : rtI n ≤ 1073741824 ∧ rtU n ≤ 1073741824 := by
  have a := rt_all h0 (by omega)
  have l : rtI n ≤ 1073741824 := by
    apply Classical.byContradiction
    intro c
    have : (1073741824 + 1) * (1073741824 + 1) ≤ rtI n * rtI n := Int.mul_le_mul (by omega) (by omega) (by decide) a.1
    omega
  refine ⟨l, ?_⟩
  unfold rtU
  split
  · rename_i c
    by_cases e : rtI n = 1073741824
    · rw [e] at c
      omega
    · omega
  · exact l
theorem sq_range {p : Int × Int} (h : OkP p) (h2 : 0 ≤ p.2) : 0 ≤ (sqP p).1 ∧ (sqP p).1 ≤ (sqP p).2 ∧ (sqP p).2 ≤ 1073741824 := by
  have h : -1073741824 ≤ p.1 ∧ p.1 ≤ p.2 ∧ p.2 ≤ 1073741824 := h
  have a := rt_all (n := max 0 p.1 * 1073741824) (by omega) (by omega)
  have m := rt_mono (m := max 0 p.1 * 1073741824) (n := p.2 * 1073741824) (by omega) (by omega) (by omega)
  have u := rt_le (n := p.2 * 1073741824) (by omega) (by omega)
  have l : rtI (p.2 * 1073741824) ≤ rtU (p.2 * 1073741824) := by unfold rtU; split <;> omega
  unfold sqP
  dsimp only
  omega
theorem encP_root {p : Int × Int} {x r : Rl} (h : OkP p) (h2 : 0 ≤ p.2) (e : EncP p x) (r0 : 0 ≤ r) (hr : r * r = x) : EncP (sqP p) r := by
  have h : -1073741824 ≤ p.1 ∧ p.1 ≤ p.2 ∧ p.2 ≤ 1073741824 := h
  have a := rt_all (n := max 0 p.1 * 1073741824) (by omega) (by omega)
  have u := rtU_all (n := p.2 * 1073741824) (by omega) (by omega)
  exact enc_root e r0 hr u.1 a.2.1 u.2
def qtP (p : Int × Int) : Int × Int := (p.1 / 4, -(-p.2 / 4))
theorem arcP_qt {p : Int × Int} {x : Rl} (h : ArcP p x) : ArcP (qtP p) (qt x) := by
  obtain ⟨h1, h2⟩ := h
  have t := qt_four x
  have l1 : ri (4 * (p.1 / 4)) ≤ ri p.1 := ri_le.mpr (by omega)
  have l2 : ri p.2 ≤ ri (4 * -(-p.2 / 4)) := ri_le.mpr (by omega)
  rw [ri_mul, show ri 4 = (4 : Rl) from rfl] at l1 l2
  constructor
  · show ri (p.1 / 4) ≤ qt x
    grind
  · show qt x ≤ ri (-(-p.2 / 4))
    grind
def q0P (a b c : Int × Int) : Int × Int := qtP (smP (smP a b) c)
def q1P (a b c : Int × Int) : Int × Int := qtP (dfP (smP b c) a)
def q2P (a b c : Int × Int) : Int × Int := qtP (dfP (smP a c) b)
def q3P (a b c : Int × Int) : Int × Int := qtP (dfP (smP a b) c)
def sinQ (p : Int × Int) : Int × Int := sinT p.1 p.2
def cosQ (p : Int × Int) : Int × Int := cosT p.1 p.2
def exS (a b c : Int × Int) : Int × Int := mulP (mulP (mulP (sinQ (q0P a b c)) (sinQ (q1P a b c))) (sinQ (q2P a b c))) (sinQ (q3P a b c))
def exC (a b c : Int × Int) : Int × Int := mulP (mulP (mulP (cosQ (q0P a b c)) (cosQ (q1P a b c))) (cosQ (q2P a b c))) (cosQ (q3P a b c))
def exZ (a b c : Int × Int) : Int × Int := (bL (sqP (exS a b c)).1 (sqP (exS a b c)).2 (sqP (exC a b c)).1 (sqP (exC a b c)).2, bH (sqP (exS a b c)).1 (sqP (exS a b c)).2 (sqP (exC a b c)).1 (sqP (exC a b c)).2)
theorem ex_arcs {a b c : Int × Int} {α β γ : Rl} (ha : ArcP a α) (hb : ArcP b β) (hc : ArcP c γ) : ArcP (q0P a b c) (qt (α + β + γ)) ∧ ArcP (q1P a b c) (qt (β + γ - α)) ∧ ArcP (q2P a b c) (qt (α + γ - β)) ∧ ArcP (q3P a b c) (qt (α + β - γ)) :=
  ⟨arcP_qt (arcP_add (arcP_add ha hb) hc), arcP_qt (arcP_sub (arcP_add hb hc) ha), arcP_qt (arcP_sub (arcP_add ha hc) hb), arcP_qt (arcP_sub (arcP_add ha hb) hc)⟩
theorem ex_ok {a b c : Int × Int} {α β γ : Rl} (ha : ArcP a α) (hb : ArcP b β) (hc : ArcP c γ) : (OkP (exS a b c) ∧ OkP (exC a b c)) ∧ EncP (exS a b c) (Ps α β γ) ∧ EncP (exC a b c) (Pc α β γ) := by
  obtain ⟨h0, h1, h2, h3⟩ := ex_arcs ha hb hc
  have l0 := arc_le h0
  have l1 := arc_le h1
  have l2 := arc_le h2
  have l3 := arc_le h3
  refine ⟨⟨mul_ok (mul_ok (mul_ok (sin_ok l0) (sin_ok l1)) (sin_ok l2)) (sin_ok l3), mul_ok (mul_ok (mul_ok (cos_ok l0) (cos_ok l1)) (cos_ok l2)) (cos_ok l3)⟩, ?_, ?_⟩
  · have := encP_mul (encP_mul (encP_mul (encP_sin l0 h0) (encP_sin l1 h1)) (encP_sin l2 h2)) (encP_sin l3 h3)
    have e : Ps α β γ = Sn (qt (α + β + γ)) * Sn (qt (β + γ - α)) * Sn (qt (α + γ - β)) * Sn (qt (α + β - γ)) := by unfold Ps; grind
    rw [e]
    exact this
  · have := encP_mul (encP_mul (encP_mul (encP_cos l0 h0) (encP_cos l1 h1)) (encP_cos l2 h2)) (encP_cos l3 h3)
    have e : Pc α β γ = Cn (qt (α + β + γ)) * Cn (qt (β + γ - α)) * Cn (qt (α + γ - β)) * Cn (qt (α + β - γ)) := by unfold Pc; grind
    rw [e]
    exact this
theorem ex_real {a b c : Int × Int} {α β γ A B C : Rl} (ha : ArcP a α) (hb : ArcP b β) (hc : ArcP c γ) (f : Full α β γ A B C) :
    (0 ≤ (exS a b c).2 ∧ 0 ≤ (exC a b c).2) ∧ (¬ 21600000 ≤ (exZ a b c).2 - (exZ a b c).1 → ri (4 * (exZ a b c).1) < A + B + C - 10800000 + 1 ∧ A + B + C - 10800000 < ri (4 * (exZ a b c).2) + 1) := by
  obtain ⟨⟨o1, o2⟩, e1, e2⟩ := ex_ok ha hb hc
  obtain ⟨⟨t0, t1⟩, dp, c2, s2⟩ := f.quarter
  have q4 := qt_four (A + B + C - 10800000)
  have big := big_pos
  have z := zero_lt_one
  have hs : 0 ≤ (exS a b c).2 := by
    apply ri_le.mp
    rw [ri_zero]
    have := mul_nonneg (Std.le_of_lt big) (mul_nonneg (sq_pos (Sn (qt (A + B + C - 10800000)))) (Std.le_of_lt dp))
    rw [s2] at this
    have := e1.2
    grind
  have hcc : 0 ≤ (exC a b c).2 := by
    apply ri_le.mp
    rw [ri_zero]
    have := mul_nonneg (Std.le_of_lt big) (mul_nonneg (sq_pos (Cn (qt (A + B + C - 10800000)))) (Std.le_of_lt dp))
    rw [c2] at this
    have := e2.2
    grind
  refine ⟨⟨hs, hcc⟩, fun hw => ?_⟩
  obtain ⟨ρ, r0, hr⟩ := exists_root (Std.le_of_lt dp)
  have rp : 0 < ρ := by
    by_cases q : ρ = 0
    · rw [q] at hr
      grind
    · grind
  generalize qt (A + B + C - 10800000) = ε at *
  have sε := Sn_nonneg (x := ε) t0 (by grind)
  have cε := Cn_nonneg (x := ε) (by grind) t1
  have f1 := encP_root (r := ρ * Sn ε) o1 hs e1 (mul_nonneg r0 sε) (by rw [← s2, ← hr]; grind)
  have f2 := encP_root (r := ρ * Cn ε) o2 hcc e2 (mul_nonneg r0 cε) (by rw [← c2, ← hr]; grind)
  have g1 := sq_range o1 hs
  have g2 := sq_range o2 hcc
  have v1 : FixV (sqP (exS a b c)).1 (sqP (exS a b c)).2 := ⟨by omega, g1.2.1, by omega⟩
  have v2 : FixV (sqP (exC a b c)).1 (sqP (exC a b c)).2 := ⟨by omega, g2.2.1, by omega⟩
  have hb : ¬ BoxO (sqP (exS a b c)).1 (sqP (exS a b c)).2 (sqP (exC a b c)).1 (sqP (exC a b c)).2 := fun q => hw (by
    unfold exZ bL bH
    dsimp only
    rw [if_pos q, if_pos q]
    decide)
  have k := box_first v1 v2 hb g1.1 g2.1 rp t0 t1 f1 f2
  have h8 := e8_eight
  have k1 : ri (exZ a b c).1 - e8 ≤ ε := k.1
  have k2 : ε ≤ ri (exZ a b c).2 + e8 := k.2
  rw [ri_mul, ri_mul, show ri 4 = (4 : Rl) from rfl]
  constructor <;> grind
structure CornerOk (a b c x y : Int × Int) : Prop where
  side : a.1 ≤ b.2 + c.2
  low : 0 ≤ (agLow b c).2
  ang : 0 < (agLow b c).1 → ((agQ a b c).1 ≤ 1073741824 ∧ 0 ≤ (agQ a b c).2) ∧ (agP a b c).1 ≤ (agP a b c).2 ∧ (AgrI (dfP x y) (agP a b c) ∨ AgrI (dfP x y) (-(agP a b c).2, -(agP a b c).1))
theorem corner_real {p l q m r n : Int} {a b c : Int × Int} {α β γ : Rl} (t : Tri α β γ) (ha : ArcP a α) (hb : ArcP b β) (hc : ArcP c γ) (ea : Cn α = dot (ri q) (ri m) (ri r) (ri n)) (eb : Cn β = dot (ri r) (ri n) (ri p) (ri l)) (ec : Cn γ = dot (ri p) (ri l) (ri q) (ri m)) :
    CornerOk a b c (crP p l q m) (crP p l r n) ∧ (0 < (agLow b c).1 → (0 < Sn β ∧ 0 < Sn γ) ∧ ∃ A, IsAng A α β γ ∧ ArcP (agP a b c) A) := by
  have main : 0 < (agLow b c).1 → (((agQ a b c).1 ≤ 1073741824 ∧ 0 ≤ (agQ a b c).2) ∧ (agP a b c).1 ≤ (agP a b c).2 ∧ (AgrI (dfP (crP p l q m) (crP p l r n)) (agP a b c) ∨ AgrI (dfP (crP p l q m) (crP p l r n)) (-(agP a b c).2, -(agP a b c).1))) ∧ (0 < Sn β ∧ 0 < Sn γ) ∧ ∃ A, IsAng A α β γ ∧ ArcP (agP a b c) A := fun hl => by
    obtain ⟨⟨sb, sc⟩, hq, A, hA, hP⟩ := ag_real t ha hb hc hl
    have l1 := course_len (ri p) (ri l) (ri q) (ri m)
    have l2 := course_len (ri p) (ri l) (ri r) (ri n)
    rw [dot_comm (ri p) (ri l) (ri r) (ri n), ← eb] at l2
    rw [← ec] at l1
    have nb := nrm β
    have nc := nrm γ
    have pb := rmul_pos sb sb
    have pc := rmul_pos sc sc
    obtain ⟨ρ, θ, r0, _, _, x1, x2⟩ := polar (X := nor (ri p) (ri l) (ri q) (ri m)) (Y := eas (ri p) (ri l) (ri q) (ri m)) (by grind)
    obtain ⟨σ, φ, s0, _, _, y1, y2⟩ := polar (X := nor (ri p) (ri l) (ri r) (ri n)) (Y := eas (ri p) (ri l) (ri r) (ri n)) (by grind)
    obtain ⟨θ', c1, c2, c3, c4⟩ := cr_real p l q m r0 x1 x2
    obtain ⟨φ', d1, d2, d3, d4⟩ := cr_real p l r n s0 y1 y2
    have cosd := course_ang ea eb ec sb sc hA r0 s0 x1 x2 y1 y2
    have cosd' : Cn (θ' - φ') = Cn A := by
      rw [Cn_sub, c1, c2, d1, d2, ← Cn_sub]
      exact cosd
    exact ⟨⟨hq, arc_le hP, agree_real ⟨c3, c4⟩ ⟨d3, d4⟩ hP cosd'⟩, ⟨sb, sc⟩, A, hA, hP⟩
  refine ⟨⟨?_, ag_low0 t hb hc, fun hl => (main hl).1⟩, fun hl => (main hl).2⟩
  have := t.le
  have h1 := ha.1
  have h2 := hb.2
  have h3 := hc.2
  apply ri_le.mp
  rw [ri_add]
  grind
structure TriLaw (p l q m r n : Int) : Prop where
  c0 : CornerOk (dsP q m r n) (dsP r n p l) (dsP p l q m) (crP p l q m) (crP p l r n)
  c1 : CornerOk (dsP r n p l) (dsP p l q m) (dsP q m r n) (crP q m r n) (crP q m p l)
  c2 : CornerOk (dsP p l q m) (dsP q m r n) (dsP r n p l) (crP r n p l) (crP r n q m)
  ex : 0 < (agLow (dsP r n p l) (dsP p l q m)).1 → 0 < (agLow (dsP p l q m) (dsP q m r n)).1 → 0 < (agLow (dsP q m r n) (dsP r n p l)).1 →
    (0 ≤ (exS (dsP q m r n) (dsP r n p l) (dsP p l q m)).2 ∧ 0 ≤ (exC (dsP q m r n) (dsP r n p l) (dsP p l q m)).2) ∧
    (¬ 21600000 ≤ (exZ (dsP q m r n) (dsP r n p l) (dsP p l q m)).2 - (exZ (dsP q m r n) (dsP r n p l) (dsP p l q m)).1 →
      4 * (exZ (dsP q m r n) (dsP r n p l) (dsP p l q m)).1 ≤ (agP (dsP q m r n) (dsP r n p l) (dsP p l q m)).2 + (agP (dsP r n p l) (dsP p l q m) (dsP q m r n)).2 + (agP (dsP p l q m) (dsP q m r n) (dsP r n p l)).2 - 10800000 ∧
      (agP (dsP q m r n) (dsP r n p l) (dsP p l q m)).1 + (agP (dsP r n p l) (dsP p l q m) (dsP q m r n)).1 + (agP (dsP p l q m) (dsP q m r n) (dsP r n p l)).1 - 10800000 ≤ 4 * (exZ (dsP q m r n) (dsP r n p l) (dsP p l q m)).2)
theorem tri_law (p l q m r n : Int) : TriLaw p l q m r n := by
  obtain ⟨α, a0, a1, ea, ha⟩ := ds_real q m r n
  obtain ⟨β, b0, b1, eb, hb⟩ := ds_real r n p l
  obtain ⟨γ, g0, g1, ec, hc⟩ := ds_real p l q m
  have t := tri_of a0 a1 ea b0 b1 eb g0 g1 ec
  have k0 := corner_real t ha hb hc ea eb ec
  have k1 := corner_real t.rot hb hc ha eb ec ea
  have k2 := corner_real t.rot.rot hc ha hb ec ea eb
  refine ⟨k0.1, k1.1, k2.1, fun l0 l1 l2 => ?_⟩
  obtain ⟨⟨sb, sc⟩, A, hA, tA⟩ := k0.2 l0
  obtain ⟨⟨_, sa⟩, B, hB, tB⟩ := k1.2 l1
  obtain ⟨_, C, hC, tC⟩ := k2.2 l2
  have f : Full α β γ A B C := ⟨t, sa, sb, sc, hA, hB, hC⟩
  obtain ⟨e1, e2⟩ := ex_real ha hb hc f
  refine ⟨e1, fun hw => ?_⟩
  obtain ⟨u1, u2⟩ := e2 hw
  have near : ∀ u v : Int, ri u < ri v + 1 → u ≤ v := fun u v h => by
    have h : ri u < ri (v + 1) := by rw [ri_add, ri_one]; exact h
    rw [ri_lt] at h
    omega
  have A1 := tA.1
  have A2 := tA.2
  have B1 := tB.1
  have B2 := tB.2
  have C1 := tC.1
  have C2 := tC.2
  have H : ri 10800000 = (10800000 : Rl) := rfl
  constructor
  · apply near
    rw [ri_sub, ri_add, ri_add, H]
    grind
  · apply near
    rw [ri_sub, ri_add, ri_add, H]
    grind
end Go.Proofs.YtjdcicjhpegphaaGreat
