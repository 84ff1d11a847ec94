/- The sine grows in the first quarter, by at most 2500 of 2^-30 from one unit to the next. -/
import Derived.Test.YtidhogcijghogaaGreatDoorTriC
namespace Go.Proofs.YtidhogcijghogaaGreatDoor
open Go Go.Abs Go.RowKit Go.Sine
set_option linter.unusedVariables false
set_option linter.unusedSimpArgs false
theorem small_e {y : Rat} (hy : 0 ≤ y) (h4 : 1000 * y ≤ 1) (hp : 1 ≤ 2 ^ 22 * y) : 0 ≤ e 2 y ∧ 2000 * e 2 y ≤ y ∧ 1 ≤ 2 ^ 45 * e 2 y ∧ 0 ≤ e 3 y ∧ 3000 * e 3 y ≤ e 2 y ∧ 0 ≤ e 4 y ∧ 4000 * e 4 y ≤ e 3 y ∧ 0 ≤ e 5 y ∧ 0 ≤ e 6 y ∧ 2 * e 6 y ≤ e 4 y ∧ 2 * e 5 y ≤ e 3 y := by
  have y1 : y ≤ 1 := by grind
  have n1 := e_nonneg hy 1; have n2 := e_nonneg hy 2; have n3 := e_nonneg hy 3; have n4 := e_nonneg hy 4; have n5 := e_nonneg hy 5; have n6 := e_nonneg hy 6
  have l5 := e_half hy y1 3; have l6 := e_half hy y1 4
  have s2 := e_succ 1 y; have s3 := e_succ 2 y; have s4 := e_succ 3 y
  have c1 : ((1 : Nat) : Rat) = 1 := rfl
  have c2 : ((2 : Nat) : Rat) = 2 := rfl
  have c3 : ((3 : Nat) : Rat) = 3 := rfl
  rw [c1] at s2
  rw [c2] at s3
  rw [c3] at s4
  simp only [Nat.reduceAdd] at s2 s3 s4 l5 l6
  have e1 := e_one y
  rw [e1] at s2
  have m2 := Rat.mul_le_mul_of_nonneg_right h4 hy
  have m3 := Rat.mul_le_mul_of_nonneg_right h4 n2
  have m4 := Rat.mul_le_mul_of_nonneg_right h4 n3
  have q1 := Rat.mul_le_mul_of_nonneg_right hp hy
  refine ⟨n2, by grind, by grind, n3, by grind, n4, by grind, n5, n6, l6, l5⟩
theorem ga_si {y : Rat} (hy : 0 ≤ y) (h4 : 1000 * y ≤ 1) (hp : 1 ≤ 2 ^ 22 * y) : -y ≤ 1000 * (ga y - 1) ∧ 1000 * (ga y - 1) ≤ -999 * e 2 y ∧ 999 * y ≤ 1000 * si y := by
  obtain ⟨a, b, c, d, e', f, g, h, i, j, k⟩ := small_e hy h4 hp
  have e1 := e_one y
  unfold ga si
  refine ⟨by grind, by grind, by grind⟩
theorem sn_up {x y : Rat} (hx : 0 ≤ x) (hy : 0 ≤ y) (h4 : 1000 * y ≤ 1) (hp : 1 ≤ 2 ^ 22 * y) (h1 : x + y ≤ 1) : sn x ≤ sn (x + y) := by
  have a := (sn_add hx hy h1).1
  have s := sn_le hx (by grind)
  have ch := cs_half hx (by grind)
  obtain ⟨_, b, c, _, e', _, g, _, _, j, _⟩ := small_e hy h4 hp
  obtain ⟨g1, g2, g3⟩ := ga_si hy h4 hp
  have m1 := mul_abs (a := 1000 * (ga y - 1)) (d := y) (t := sn x) g1 (by grind) s.1 (by grind) hy
  have m2 := Rat.mul_le_mul_of_nonneg_right ch (show 0 ≤ si y by grind)
  generalize e 6 y = e6 at *
  generalize e 4 y = e4 at *
  generalize e 3 y = e3 at *
  generalize e 2 y = e2 at *
  generalize si y = S at *
  generalize ga y = G at *
  grind
theorem cs_down {x y : Rat} (hx : 0 ≤ x) (hy : 0 ≤ y) (h4 : 1000 * y ≤ 1) (hp : 1 ≤ 2 ^ 22 * y) (h1 : x + y ≤ 1) : 1 ≤ 2 ^ 48 * (cs x - cs (x + y)) := by
  have a := (cs_add hx hy h1).2
  have s := sn_le hx (by grind)
  have ch := cs_half hx (by grind)
  obtain ⟨n2, b, c, _, e', _, g, _, _, j, _⟩ := small_e hy h4 hp
  obtain ⟨g1, g2, g3⟩ := ga_si hy h4 hp
  have m1 := Rat.mul_nonneg s.1 (show 0 ≤ si y by grind)
  have m2 := Rat.mul_le_mul_of_nonneg_right ch (show 0 ≤ 1000 * (1 - ga y) by grind)
  generalize e 6 y = e6 at *
  generalize e 4 y = e4 at *
  generalize e 3 y = e3 at *
  generalize e 2 y = e2 at *
  generalize si y = S at *
  generalize ga y = G at *
  grind
theorem an_one : (0 ≤ an 1 ∧ 1000 * an 1 ≤ 1) ∧ 1 ≤ 2 ^ 22 * an 1 ∧ 2 ^ 30 * (8 * an 1) ≤ 2499 := by
  refine ⟨⟨an_nonneg 1, an_small (by decide)⟩, an_pos (by decide), ?_⟩
  unfold an
  decide +kernel
theorem mid45 : -436 ≤ 2 ^ 62 * (cs (an 2700000) - sn (an 2700000)) ∧ 2 ^ 62 * (cs (an 2700000) - sn (an 2700000)) ≤ 436 := by
  have s := qs_err (r := 2700000) (Nat.le_refl _)
  have c := qc_err (r := 2700000) (Nat.le_refl _)
  obtain ⟨n1, n2⟩ := near45
  have n1 := i_le n1
  have n2 := i_le n2
  rw [Rat.intCast_sub] at n1 n2
  have c1 : ((-20 : Int) : Rat) = -20 := rfl
  have c2 : ((20 : Int) : Rat) = 20 := rfl
  rw [c1] at n1
  rw [c2] at n2
  generalize sn (an 2700000) = S at *
  generalize cs (an 2700000) = C at *
  generalize ((qs 2700000 : Int) : Rat) = u at *
  generalize ((qc 2700000 : Int) : Rat) = v at *
  constructor <;> grind
theorem tQ_step {p : Nat} (h : p + 1 ≤ 5400000) : tQ p ≤ tQ (p + 1) ∧ 2 ^ 30 * (tQ (p + 1) - tQ p) ≤ 2500 := by
  obtain ⟨⟨y0, y4⟩, yp, y8⟩ := an_one
  rcases (show p + 1 ≤ 2700000 ∨ p = 2700000 ∨ 2700001 ≤ p by omega) with k | k | k
  · have l := le1 (an_le k)
    unfold tQ
    rw [if_pos (by omega), if_pos (by omega), an_add] at *
    have x0 := an_nonneg p
    have u := sn_up x0 y0 y4 yp l
    have v := (sn_lip x0 y0 l).2
    generalize sn (an p + an 1) = S at *
    generalize sn (an p) = C at *
    generalize an 1 = y at *
    clear l x0
    exact ⟨u, by grind⟩
  · subst k
    have e : tQ (2700000 + 1) = cs (an 2699999) := by unfold tQ; rw [if_neg (by decide)]
    have e' : tQ 2700000 = sn (an 2700000) := by unfold tQ; rw [if_pos (by decide)]
    have ea : an 2700000 = an 2699999 + an 1 := an_add 2699999 1
    have m := mid45
    rw [e, e']
    have l := le1 (an_le (r := 2700000) (by decide))
    rw [ea] at l m ⊢
    have x0 := an_nonneg 2699999
    have u := cs_down x0 y0 y4 yp l
    have v := (cs_lip x0 y0 l).1
    generalize sn (an 2699999 + an 1) = S at *
    generalize cs (an 2699999 + an 1) = T at *
    generalize cs (an 2699999) = C at *
    generalize an 1 = y at *
    clear l x0
    constructor <;> grind
  · obtain ⟨q, hq⟩ : ∃ q, p + q + 1 = 5400000 := ⟨5400000 - (p + 1), by omega⟩
    have e : tQ (p + 1) = cs (an q) := by unfold tQ; rw [if_neg (by omega), show 5400000 - (p + 1) = q by omega]
    have e' : tQ p = cs (an q + an 1) := by unfold tQ; rw [if_neg (by omega), show 5400000 - p = q + 1 by omega, an_add]
    have l := le1 (an_le (r := q + 1) (by omega))
    rw [e, e']
    rw [an_add] at l
    have x0 := an_nonneg q
    have u := cs_down x0 y0 y4 yp l
    have v := (cs_lip x0 y0 l).1
    generalize cs (an q + an 1) = T at *
    generalize cs (an q) = C at *
    generalize an 1 = y at *
    clear l x0 e e' hq k h
    constructor <;> grind
theorem fl_step {m n : Int} {S T : Rat} (h : IsFl m S) (k : IsFl n T) (st : S ≤ T ∧ 2 ^ 30 * (T - S) ≤ 2500) : m ≤ n ∧ n ≤ m + 2500 := by
  unfold IsFl at h k
  have a : (m : Rat) < ((n + 1 : Int) : Rat) := by rw [Rat.intCast_add, z1]; grind
  have b : (n : Rat) < ((m + 2501 : Int) : Rat) := by
    rw [Rat.intCast_add, show ((2501 : Int) : Rat) = 2501 from rfl]; grind
  have a := Rat.intCast_lt_intCast.mp a
  have b := Rat.intCast_lt_intCast.mp b
  omega
theorem sinP_spots : (sinP 0 = 0 ∧ sinP 1 = 312) ∧ (sinP 1799999 = 536870641 ∧ sinP 1800000 = 536870912 ∧ sinP 1800001 = 536871182) ∧ sinP 5399999 = 1073741823 ∧ sinP 5400000 = 1073741824 := by
  decide +kernel
theorem up_spots : (upI 0 = 0 ∧ upI 1 = 313) ∧ (upI 1799999 = 536870642 ∧ upI 1800000 = 536870912 ∧ upI 1800001 = 536871183) ∧ upI 5399999 = 1073741824 ∧ upI 5400000 = 1073741824 := by
  obtain ⟨⟨a, b⟩, ⟨c, d, e⟩, f, g⟩ := sinP_spots
  unfold upI
  rw [a, b, c, d, e, f, g]
  decide
theorem sin_step {p : Int} (h0 : 0 ≤ p) (h1 : p < 5400000) : (sinP p ≤ sinP (p + 1) ∧ sinP (p + 1) ≤ sinP p + 2500) ∧ upI p ≤ upI (p + 1) ∧ upI (p + 1) ≤ upI p + 2500 := by
  obtain ⟨⟨a, b⟩, ⟨c, d, e⟩, f, g⟩ := sinP_spots
  obtain ⟨⟨a', b'⟩, ⟨c', d', e'⟩, f', g'⟩ := up_spots
  by_cases k : p = 0 ∨ p = 1799999 ∨ p = 1800000 ∨ p = 5399999
  · rcases k with rfl | rfl | rfl | rfl
    · rw [show (0 : Int) + 1 = 1 from rfl]; omega
    · rw [show (1799999 : Int) + 1 = 1800000 from rfl]; omega
    · rw [show (1800000 : Int) + 1 = 1800001 from rfl]; omega
    · rw [show (5399999 : Int) + 1 = 5400000 from rfl]; omega
  · obtain ⟨q, rfl⟩ := Int.eq_ofNat_of_zero_le h0
    have x1 : exB ((q : Nat) : Int) = false := by
      unfold exB
      simp only [Bool.or_eq_false_iff, beq_eq_false_iff_ne]
      omega
    have x2 : exB ((q + 1 : Nat) : Int) = false := by
      unfold exB
      simp only [Bool.or_eq_false_iff, beq_eq_false_iff_ne]
      omega
    have s := fl_step (far_tQ x1 (by omega)).2 (far_tQ x2 (by omega)).2 (tQ_step (by omega))
    have e2 : ((q + 1 : Nat) : Int) = (q : Int) + 1 := by omega
    rw [e2] at s x2
    refine ⟨s, ?_⟩
    unfold upI
    rw [x1, x2, if_neg (by decide), if_neg (by decide)]
    omega
theorem sin_mono {p : Int} (h0 : 0 ≤ p) : ∀ k : Nat, p + k ≤ 5400000 → sinP p ≤ sinP (p + k) ∧ upI p ≤ upI (p + k)
  | 0, _ => by
    have : p + ((0 : Nat) : Int) = p := by omega
    rw [this]
    exact ⟨Int.le_refl _, Int.le_refl _⟩
  | k + 1, h => by
    have i := sin_mono h0 k (by omega)
    have s := sin_step (p := p + k) (by omega) (by omega)
    have : p + ((k + 1 : Nat) : Int) = p + k + 1 := by omega
    rw [this]
    omega
theorem sin_le {p q : Int} (h0 : 0 ≤ p) (h : p ≤ q) (h1 : q ≤ 5400000) : sinP p ≤ sinP q ∧ upI p ≤ upI q := by
  obtain ⟨k, rfl⟩ : ∃ k : Nat, q = p + k := ⟨(q - p).toNat, by omega⟩
  exact sin_mono h0 k h1
/-- The ends in the quarters. -/
theorem ends1 {n : Int} (h0 : 0 ≤ n) (h1 : n ≤ 5400000) : loI n = sinP n ∧ hiE n = upI n := by
  have e : mI n = n := by unfold mI; omega
  have q : quartI n = n := by unfold quartI; rw [e, if_neg (by omega), if_neg (by omega)]
  unfold loI hiE southB
  rw [q, e, decide_eq_false (by omega)]
  exact ⟨rfl, rfl⟩
theorem ends2 {n : Int} (h0 : 5400000 ≤ n) (h1 : n ≤ 10800000) : loI n = sinP (10800000 - n) ∧ hiE n = upI (10800000 - n) := by
  by_cases k : n = 5400000
  · subst k
    exact ends1 (by decide) (by decide)
  have e : mI n = n := by unfold mI; omega
  have q : quartI n = 10800000 - n := by unfold quartI; rw [e, if_neg (by omega), if_pos (by omega)]
  unfold loI hiE southB
  rw [q, e, decide_eq_false (by omega)]
  exact ⟨rfl, rfl⟩
theorem ends3 {n : Int} (h0 : 10800000 ≤ n) (h1 : n ≤ 16200000) : loI n = -upI (n - 10800000) ∧ hiE n = -sinP (n - 10800000) := by
  by_cases k : n = 10800000
  · subst k
    have a := ends2 (n := 10800000) (by decide) (by decide)
    have s := sinP_spots.1.1
    have u := up_spots.1.1
    rw [show (10800000 : Int) - 10800000 = 0 from rfl] at *
    omega
  have e : mI n = n := by unfold mI; omega
  have q : quartI n = n - 10800000 := by unfold quartI; rw [e, if_pos (by omega), if_neg (by omega)]
  unfold loI hiE southB
  rw [q, e, decide_eq_true (by omega)]
  exact ⟨rfl, rfl⟩
/-- The cosine's ends. -/
def cL (a b : Int) : Int := encL (a + 5400000) (b + 5400000)
def cH (a b : Int) : Int := encH (a + 5400000) (b + 5400000)
theorem has_no {a b n : Int} (h0 : 0 ≤ n - a + 21600000) (h : n < a ∨ b < n) (hb : b - a < n - a + 21600000) (hs : n < a + 21600000) (ab : a ≤ b) : hasB a b n = false := by
  unfold hasB
  apply decide_eq_false
  omega
/-- The ends of an arc within the first quarter. -/
theorem box1 {x y : Int} (h0 : 0 ≤ x) (h : x ≤ y) (h1 : y ≤ 5400000) : cL x y = sinP (5400000 - y) ∧ cH x y = upI (5400000 - x) ∧ encL x y = sinP x ∧ encH x y = upI y := by
  obtain ⟨ax, bx⟩ := ends2 (n := x + 5400000) (by omega) (by omega)
  obtain ⟨ay, bY⟩ := ends2 (n := y + 5400000) (by omega) (by omega)
  obtain ⟨sx, tx⟩ := ends1 (n := x) (by omega) (by omega)
  obtain ⟨sy, ty⟩ := ends1 (n := y) (by omega) (by omega)
  have m1 := sin_le (p := 5400000 - y) (q := 5400000 - x) (by omega) (by omega) (by omega)
  have m2 := sin_le (p := x) (q := y) (by omega) (by omega) (by omega)
  rw [show 10800000 - (x + 5400000) = 5400000 - x by omega] at ax bx
  rw [show 10800000 - (y + 5400000) = 5400000 - y by omega] at ay bY
  have n1 : hasB (x + 5400000) (y + 5400000) 16200000 = false := has_no (by omega) (by omega) (by omega) (by omega) (by omega)
  have n3 : hasB x y 16200000 = false := has_no (by omega) (by omega) (by omega) (by omega) (by omega)
  refine ⟨?_, ?_, ?_, ?_⟩
  · unfold cL encL
    rw [n1, if_neg (by decide), ax, ay]; omega
  · unfold cH encH
    by_cases k : x = 0
    · subst k
      have u := up_spots.2.2.2
      rw [show (5400000 : Int) - 0 = 5400000 from rfl] at *
      split <;> omega
    · have n2 : hasB (x + 5400000) (y + 5400000) 5400000 = false := has_no (by omega) (by omega) (by omega) (by omega) (by omega)
      rw [n2, if_neg (by decide), bx, bY]; omega
  · unfold encL
    rw [n3, if_neg (by decide), sx, sy]; omega
  · unfold encH
    by_cases k : y = 5400000
    · subst k
      have u := up_spots.2.2.2
      split <;> omega
    · have n2 : hasB x y 5400000 = false := has_no (by omega) (by omega) (by omega) (by omega) (by omega)
      rw [n2, if_neg (by decide), tx, ty]; omega
/-- The ends of an arc within the second quarter. -/
theorem box2 {x y : Int} (h0 : 5400000 ≤ x) (h : x ≤ y) (h1 : y < 10800000) : cL x y = -upI (y - 5400000) ∧ cH x y = -sinP (x - 5400000) ∧ encL x y = sinP (10800000 - y) ∧ encH x y = upI (10800000 - x) := by
  obtain ⟨ax, bx⟩ := ends3 (n := x + 5400000) (by omega) (by omega)
  obtain ⟨ay, bY⟩ := ends3 (n := y + 5400000) (by omega) (by omega)
  obtain ⟨sx, tx⟩ := ends2 (n := x) (by omega) (by omega)
  obtain ⟨sy, ty⟩ := ends2 (n := y) (by omega) (by omega)
  have m1 := sin_le (p := x - 5400000) (q := y - 5400000) (by omega) (by omega) (by omega)
  have m2 := sin_le (p := 10800000 - y) (q := 10800000 - x) (by omega) (by omega) (by omega)
  rw [show x + 5400000 - 10800000 = x - 5400000 by omega] at ax bx
  rw [show y + 5400000 - 10800000 = y - 5400000 by omega] at ay bY
  have n1 : hasB (x + 5400000) (y + 5400000) 16200000 = false := has_no (by omega) (by omega) (by omega) (by omega) (by omega)
  have n2 : hasB (x + 5400000) (y + 5400000) 5400000 = false := has_no (by omega) (by omega) (by omega) (by omega) (by omega)
  have n3 : hasB x y 16200000 = false := has_no (by omega) (by omega) (by omega) (by omega) (by omega)
  refine ⟨?_, ?_, ?_, ?_⟩
  · unfold cL encL
    rw [n1, if_neg (by decide), ax, ay]; omega
  · unfold cH encH
    rw [n2, if_neg (by decide), bx, bY]; omega
  · unfold encL
    rw [n3, if_neg (by decide), sx, sy]; omega
  · unfold encH
    by_cases k : x = 5400000
    · subst k
      have u := up_spots.2.2.2
      rw [show (10800000 : Int) - 5400000 = 5400000 from rfl] at *
      split <;> omega
    · have n4 : hasB x y 5400000 = false := has_no (by omega) (by omega) (by omega) (by omega) (by omega)
      rw [n4, if_neg (by decide), tx, ty]; omega
end Go.Proofs.YtidhogcijghogaaGreatDoor
