/- The sine of some units as a sum of divided powers: how near both are. Plain: no program is in sight here. The real sine of some units is near the sum of divided powers. Plain: no program is in sight here. -/
import Derived.Test.YtjdcicjhpegphaaGreatRa
import Derived.Test.YtjdcicjhpegphaaGreatGc
namespace Go.Sine
def fct : Nat → Nat
  | 0 => 1
  | n + 1 => (n + 1) * fct n
theorem fct_e {x : Rat} (hx : 0 ≤ x) (h1 : x ≤ 1) : ∀ m, (fct m : Rat) * e m x ≤ 1
  | 0 => by rw [e_zero]; decide +kernel
  | m + 1 => by
    have ih := fct_e hx h1 m
    have h := e_succ m x
    have n0 := e_nonneg hx m
    have c : ((fct (m + 1) : Nat) : Rat) = ((m : Rat) + 1) * (fct m : Rat) := by
      show (((m + 1) * fct m : Nat) : Rat) = _
      simp
    have f0 : (0 : Rat) ≤ (fct m : Rat) := Rat.natCast_nonneg
    rw [c]
    have e1 : ((m : Rat) + 1) * (fct m : Rat) * e (m + 1) x = (fct m : Rat) * (((m : Rat) + 1) * e (m + 1) x) := by grind
    rw [e1, h]
    have := Rat.mul_le_mul_of_nonneg_right h1 (Rat.mul_nonneg f0 n0)
    grind
theorem fct_mono (m : Nat) : ∀ k, fct m ≤ fct (m + k)
  | 0 => Nat.le_refl _
  | k + 1 => Nat.le_trans (fct_mono m k) (by
    show fct (m + k) ≤ (m + k + 1) * fct (m + k)
    exact Nat.le_mul_of_pos_left _ (by omega))
theorem e_76 {x : Rat} (hx : 0 ≤ x) (h1 : x ≤ 1) (j : Nat) : 2 ^ 250 * e (76 + j) x ≤ 1 := by
  have h := fct_e hx h1 (76 + j)
  have n0 := e_nonneg hx (76 + j)
  have k : 2 ^ 250 ≤ fct (76 + j) := Nat.le_trans (by decide +kernel) (fct_mono 76 j)
  have k2 : ((2 ^ 250 : Nat) : Rat) ≤ (fct (76 + j) : Rat) := Rat.natCast_le_natCast.mpr k
  have k3 : ((2 ^ 250 : Nat) : Rat) = 2 ^ 250 := by rw [Rat.natCast_pow]; rfl
  rw [k3] at k2
  have := Rat.mul_le_mul_of_nonneg_right k2 n0
  grind
theorem F_early2 (τ : Nat → Rat) (hτ : ∀ m, -1 ≤ τ m ∧ τ m ≤ 1) {x : Rat} (hx : 0 ≤ x) (h1 : x ≤ 1) (n : Nat) (hn : 76 ≤ n) : ∀ k : Nat, -((k : Rat) / 2 ^ 250) ≤ F τ 0 (n + k) x - F τ 0 n x ∧ F τ 0 (n + k) x - F τ 0 n x ≤ (k : Rat) / 2 ^ 250
  | 0 => by
    have : ((0 : Nat) : Rat) = 0 := rfl
    rw [this, Nat.add_zero]
    constructor <;> grind
  | k + 1 => by
    obtain ⟨a, b⟩ := F_early2 τ hτ hx h1 n hn k
    obtain ⟨c, d⟩ := F_last τ hτ hx (n + k) 0
    have hc : ((k + 1 : Nat) : Rat) = (k : Rat) + 1 := by simp
    have small : e (0 + (n + k)) x ≤ 1 / 2 ^ 250 := by
      obtain ⟨j, hj⟩ : ∃ j, n + k = 76 + j := ⟨n + k - 76, by omega⟩
      rw [hj, show 0 + (76 + j) = 76 + j by omega]
      have t := e_76 hx h1 j
      grind
    rw [hc, ← Nat.add_assoc]
    constructor <;> grind
theorem sn_add2 {x y : Rat} (hx : 0 ≤ x) (hy : 0 ≤ y) (h1 : x + y ≤ 1) : -(3 * e 6 y + 1 / 2 ^ 240) ≤ sn (x + y) - (sn x * ga y + cs x * si y) ∧ sn (x + y) - (sn x * ga y + cs x * si y) ≤ 3 * e 6 y + 1 / 2 ^ 240 := by
  have hg := step_gen sg x y
  obtain ⟨r1, r2⟩ := rest_bound sg sg_one hx hy h1
  obtain ⟨s1, s2, s3, s4, s5⟩ := sg_shift
  have hx1 : x ≤ 1 := by grind
  have hy1 : y ≤ 1 := by grind
  rw [F_ext s1, F_ext s2, F_ext s3, F_ext s4, F_ext s5, F_neg, F_neg] at hg
  have cg_one : ∀ m, -1 ≤ cg m ∧ cg m ≤ 1 := fun m => sg_one (m + 1)
  have t1 := F_early2 cg cg_one hx hx1 80 (by omega) 1
  have t2 := F_early2 sg sg_one hx hx1 79 (by omega) 2
  have t3 := F_early2 cg cg_one hx hx1 78 (by omega) 3
  have t4 := F_early2 sg sg_one hx hx1 77 (by omega) 4
  have t5 := F_early2 cg cg_one hx hx1 76 (by omega) 5
  have d1 := mul_abs t1.1 t1.2 (e_nonneg hy 1) (e_le_one hy hy1 1) (by grind)
  have d2 := mul_abs t2.1 t2.2 (e_nonneg hy 2) (e_le_one hy hy1 2) (by grind)
  have d3 := mul_abs t3.1 t3.2 (e_nonneg hy 3) (e_le_one hy hy1 3) (by grind)
  have d4 := mul_abs t4.1 t4.2 (e_nonneg hy 4) (e_le_one hy hy1 4) (by grind)
  have d5 := mul_abs t5.1 t5.2 (e_nonneg hy 5) (e_le_one hy hy1 5) (by grind)
  unfold sn cs ga si
  simp only [Nat.reduceAdd] at d1 d2 d3 d4 d5
  have c1 : ((1 : Nat) : Rat) = 1 := rfl
  have c2 : ((2 : Nat) : Rat) = 2 := rfl
  have c3 : ((3 : Nat) : Rat) = 3 := rfl
  have c4 : ((4 : Nat) : Rat) = 4 := rfl
  have c5 : ((5 : Nat) : Rat) = 5 := rfl
  rw [c1] at d1
  rw [c2] at d2
  rw [c3] at d3
  rw [c4] at d4
  rw [c5] at d5
  constructor <;> grind
theorem cs_add2 {x y : Rat} (hx : 0 ≤ x) (hy : 0 ≤ y) (h1 : x + y ≤ 1) : -(3 * e 6 y + 1 / 2 ^ 240) ≤ cs (x + y) - (cs x * ga y - sn x * si y) ∧ cs (x + y) - (cs x * ga y - sn x * si y) ≤ 3 * e 6 y + 1 / 2 ^ 240 := by
  have hg := step_gen cg x y
  have cg_one : ∀ m, -1 ≤ cg m ∧ cg m ≤ 1 := fun m => sg_one (m + 1)
  obtain ⟨r1, r2⟩ := rest_bound cg cg_one hx hy h1
  obtain ⟨s1, s2, s3, s4, s5⟩ := sg_shift
  have hx1 : x ≤ 1 := by grind
  have hy1 : y ≤ 1 := by grind
  have u1 : ∀ m, cg (m + 1) = - sg m := fun m => s2 m
  have u2 : ∀ m, cg (m + 2) = - cg m := fun m => s3 m
  have u3 : ∀ m, cg (m + 3) = sg m := fun m => s4 m
  have u4 : ∀ m, cg (m + 4) = cg m := fun m => s5 m
  have u5 : ∀ m, cg (m + 5) = - sg m := fun m => (sg_two (m + 4)).trans (by rw [s4])
  rw [F_ext u1, F_ext u2, F_ext u3, F_ext u4, F_ext u5, F_neg, F_neg, F_neg] at hg
  have t1 := F_early2 sg sg_one hx hx1 80 (by omega) 1
  have t2 := F_early2 cg cg_one hx hx1 79 (by omega) 2
  have t3 := F_early2 sg sg_one hx hx1 78 (by omega) 3
  have t4 := F_early2 cg cg_one hx hx1 77 (by omega) 4
  have t5 := F_early2 sg sg_one hx hx1 76 (by omega) 5
  have d1 := mul_abs t1.1 t1.2 (e_nonneg hy 1) (e_le_one hy hy1 1) (by grind)
  have d2 := mul_abs t2.1 t2.2 (e_nonneg hy 2) (e_le_one hy hy1 2) (by grind)
  have d3 := mul_abs t3.1 t3.2 (e_nonneg hy 3) (e_le_one hy hy1 3) (by grind)
  have d4 := mul_abs t4.1 t4.2 (e_nonneg hy 4) (e_le_one hy hy1 4) (by grind)
  have d5 := mul_abs t5.1 t5.2 (e_nonneg hy 5) (e_le_one hy hy1 5) (by grind)
  unfold sn cs ga si
  simp only [Nat.reduceAdd] at d1 d2 d3 d4 d5
  have c1 : ((1 : Nat) : Rat) = 1 := rfl
  have c2 : ((2 : Nat) : Rat) = 2 := rfl
  have c3 : ((3 : Nat) : Rat) = 3 := rfl
  have c4 : ((4 : Nat) : Rat) = 4 := rfl
  have c5 : ((5 : Nat) : Rat) = 5 := rfl
  rw [c1] at d1
  rw [c2] at d2
  rw [c3] at d3
  rw [c4] at d4
  rw [c5] at d5
  constructor <;> grind
def tq : Rat := 207584762326761940131277131579339796738 / 2 ^ 150
def pc : Rat := (1 - tq * tq) / (1 + tq * tq)
def ps : Rat := 2 * tq / (1 + tq * tq)
theorem p_norm : pc * pc + ps * ps = 1 := by decide +kernel
theorem p_near : (-(1 / 2 ^ 120) ≤ ga (an 1) - pc ∧ ga (an 1) - pc ≤ 1 / 2 ^ 120) ∧ (-(1 / 2 ^ 120) ≤ si (an 1) - ps ∧ si (an 1) - ps ≤ 1 / 2 ^ 120) := by decide +kernel
theorem p_pos : 0 < ps ∧ 0 < pc ∧ 2700000 * ps < 1 ∧ ps ≤ 1 ∧ pc ≤ 1 := by decide +kernel
theorem e6_one : 3 * e 6 (an 1) + 1 / 2 ^ 240 ≤ 1 / 2 ^ 120 := by decide +kernel
theorem eighth : (-(1 / 2 ^ 58) ≤ cs (an 2700000) - sn (an 2700000) ∧ cs (an 2700000) - sn (an 2700000) ≤ 1 / 2 ^ 58) ∧ (0 ≤ cs (an 2700000) + sn (an 2700000) ∧ cs (an 2700000) + sn (an 2700000) ≤ 3 / 2) := by decide +kernel
theorem an_succ (n : Nat) : an (n + 1) = an n + an 1 := by
  unfold an
  rw [show (n + 1) * U = n * U + 1 * U by rw [Nat.add_mul], Rat.natCast_add]
  grind
theorem cs_two {x : Rat} (hx : 0 ≤ x) (h1 : x ≤ 1) : (-2 ≤ cs x ∧ cs x ≤ 2) ∧ (-2 ≤ sn x ∧ sn x ≤ 2) := by
  have a := (F_two hx h1 80 0).2
  have b := (F_two hx h1 80 1).1
  have c := e_le_one hx h1 0
  have d := e_le_one hx h1 1
  rw [sn_eq]
  unfold cs
  constructor <;> constructor <;> grind
theorem small_mul {a d B η : Rat} (h1 : -B ≤ a) (h2 : a ≤ B) (k1 : -η ≤ d) (k2 : d ≤ η) : -(B * η) ≤ a * d ∧ a * d ≤ B * η := by
  have e1 := Rat.mul_nonneg (show 0 ≤ B - a by grind) (show 0 ≤ η + d by grind)
  have e2 := Rat.mul_nonneg (show 0 ≤ B + a by grind) (show 0 ≤ η - d by grind)
  have e3 := Rat.mul_nonneg (show 0 ≤ B - a by grind) (show 0 ≤ η - d by grind)
  have e4 := Rat.mul_nonneg (show 0 ≤ B + a by grind) (show 0 ≤ η + d by grind)
  constructor <;> grind
theorem one_step {n : Nat} (h : n + 1 ≤ 2700000) : (-(1 / 2 ^ 115) ≤ cs (an (n + 1)) - (cs (an n) * pc - sn (an n) * ps) ∧ cs (an (n + 1)) - (cs (an n) * pc - sn (an n) * ps) ≤ 1 / 2 ^ 115) ∧ (-(1 / 2 ^ 115) ≤ sn (an (n + 1)) - (sn (an n) * pc + cs (an n) * ps) ∧ sn (an (n + 1)) - (sn (an n) * pc + cs (an n) * ps) ≤ 1 / 2 ^ 115) := by
  have l := an_le h
  have l0 := an_le (show n ≤ 2700000 by omega)
  rw [an_succ] at l ⊢
  have n0 := an_nonneg n
  have n1 := an_nonneg 1
  have a := cs_add2 n0 n1 (by grind)
  have b := sn_add2 n0 n1 (by grind)
  have t := cs_two n0 (by grind)
  obtain ⟨p1, p2⟩ := p_near
  have e6 := e6_one
  have q1 := small_mul t.1.1 t.1.2 p1.1 p1.2
  have q2 := small_mul t.1.1 t.1.2 p2.1 p2.2
  have q3 := small_mul t.2.1 t.2.2 p1.1 p1.2
  have q4 := small_mul t.2.1 t.2.2 p2.1 p2.2
  have z : (5 : Rat) * (1 / 2 ^ 120) ≤ 1 / 2 ^ 115 := by decide +kernel
  clear n0 n1 t p1 p2 l l0
  generalize cs (an n + an 1) = A at *
  generalize sn (an n + an 1) = B at *
  generalize cs (an n) = c at *
  generalize sn (an n) = s at *
  generalize ga (an 1) = g at *
  generalize si (an 1) = i at *
  generalize pc = p at *
  generalize ps = q at *
  generalize e 6 (an 1) = e at *
  generalize (1 : Rat) / 2 ^ 120 = η at *
  generalize (1 : Rat) / 2 ^ 115 = ζ at *
  generalize (1 : Rat) / 2 ^ 240 = ξ at *
  constructor <;> constructor <;> grind
end Go.Sine
namespace Go.Re
open Go.Sine (cs sn an pc ps)
theorem ps_ne : rat pc * rat pc + rat ps * rat ps = 1 := by rw [← rat_mul, ← rat_mul, ← rat_add, Go.Sine.p_norm]; rfl
theorem gam_ex : ∃ g : Rl, 0 < g ∧ g < 2 ∧ Cn g = rat pc ∧ Sn g = rat ps := by
  obtain ⟨x, x0, x1, hc, hs⟩ := arg_ex ps_ne
  obtain ⟨p1, p2, p3, _, _⟩ := Go.Sine.p_pos
  have q1 := rat_pos.mpr p1
  have q2 := rat_pos.mpr p2
  have q3 := rat_lt.mpr p3
  rw [rat_mul, rat_one, show rat 2700000 = (2700000 : Rl) from rfl] at q3
  have z := zero_lt_one
  have xH : x < 10800000 := by
    apply Classical.byContradiction
    intro c
    have := Sn_nonneg (x := x - 10800000) (by grind) (by grind)
    have e := Sn_addH (x - 10800000)
    rw [show x - 10800000 + 10800000 = x by grind] at e
    grind
  have xQ : x < 5400000 := by
    apply Classical.byContradiction
    intro c
    have := Cn_le (x := 5400000) (y := x) (by grind) (by grind) (by grind)
    rw [Cn_Q] at this
    grind
  have xp : 0 < x := by
    by_cases c : x = 0
    · rw [c, Sn_zero] at hs
      grind
    · grind
  refine ⟨x, xp, ?_, hc, hs⟩
  have key : ∀ n : Nat, n ≤ 2700000 → Sn (2 * (n : Rl)) ≤ (n : Rl) * Sn 2 ∧ 0 ≤ Sn (2 * (n : Rl)) := by
    intro n
    induction n with
    | zero =>
      intro _
      have : ((0 : Nat) : Rl) = 0 := rfl
      rw [this, show 2 * (0 : Rl) = 0 by grind, Sn_zero]
      grind
    | succ n ih =>
      intro h
      have ih := ih (by omega)
      rw [cast_succ, show 2 * ((n : Rl) + 1) = 2 * (n : Rl) + 2 by grind, Sn_add]
      have s2 := Sn_pos (x := 2) (by grind) (by grind)
      have hn : (n : Rl) + 1 ≤ 2700000 := by
        rw [← cast_succ]
        exact (rat_le.mpr (Rat.natCast_le_natCast.mpr h))
      have c0 := cast_nonneg n
      have r1 := Cn_range (2 * (n : Rl))
      have r2 := Cn_range 2
      have a1 := mul_nonneg ih.2 (show 0 ≤ 1 - Cn 2 by grind)
      have a2 := mul_nonneg (Std.le_of_lt s2) (show 0 ≤ 1 - Cn (2 * (n : Rl)) by grind)
      refine ⟨by grind, ?_⟩
      rw [← Sn_add]
      exact Sn_nonneg (by grind) (by grind)
  have k := (key 2700000 (Nat.le_refl _)).1
  rw [show ((2700000 : Nat) : Rl) = (2700000 : Rl) from rfl, show (2 : Rl) * 2700000 = 5400000 by grind, Sn_Q] at k
  apply Classical.byContradiction
  intro c
  have := Sn_le (x := 2) (y := x) (by grind) (by grind) (by grind)
  grind
noncomputable def gam : Rl := Classical.choose gam_ex
theorem gam_all : 0 < gam ∧ gam < 2 ∧ Cn gam = rat pc ∧ Sn gam = rat ps := Classical.choose_spec gam_ex
theorem small2 {D : Rat} {a : Rat} (h : -D ≤ a ∧ a ≤ D) : -(rat D) ≤ rat a ∧ rat a ≤ rat D := by
  rw [← rat_neg]
  exact ⟨rat_le.mpr h.1, rat_le.mpr h.2⟩
theorem len_add {a b x y V D : Rl} (hV : 0 ≤ V) (hD : 0 ≤ D) (h : a * a + b * b ≤ V * V) (k : x * x + y * y ≤ D * D) : (a + x) * (a + x) + (b + y) * (b + y) ≤ (V + D) * (V + D) := by
  have c : (a * x + b * y) * (a * x + b * y) ≤ (V * D) * (V * D) := by
    have s := sq_pos (a * y - b * x)
    have m := mul_mono h k (by have := sq_pos x; have := sq_pos y; grind) (by have := sq_pos V; grind)
    grind
  have := le_of_sq (mul_nonneg hV hD) c
  grind
theorem an_zero : an 0 = 0 := by decide +kernel
theorem cs_zero : cs 0 = 1 ∧ sn 0 = 0 := by decide +kernel
noncomputable def du : Rl := rat (1 / 2 ^ 114)
theorem du_pos : 0 < du := rat_pos.mpr (by decide +kernel)
theorem in_du {a b : Rat} (h : -(1 / 2 ^ 115) ≤ a ∧ a ≤ 1 / 2 ^ 115) (k : -(1 / 2 ^ 115) ≤ b ∧ b ≤ 1 / 2 ^ 115) : rat a * rat a + rat b * rat b ≤ du * du := by
  have h := small2 h
  have k := small2 k
  have e : du = 2 * rat (1 / 2 ^ 115) := by
    unfold du
    rw [show (2 : Rl) = rat 2 from rfl, ← rat_mul]
    congr 1
    decide +kernel
  have p : 0 ≤ rat (1 / 2 ^ 115) := Std.le_of_lt (rat_pos.mpr (by decide +kernel))
  rw [e]
  generalize rat (1 / 2 ^ 115) = δ at *
  generalize rat a = x at *
  generalize rat b = y at *
  have a1 := mul_nonneg (show 0 ≤ δ - x by grind) (show 0 ≤ δ + x by grind)
  have a2 := mul_nonneg (show 0 ≤ δ - y by grind) (show 0 ≤ δ + y by grind)
  have a3 := mul_nonneg p p
  grind
theorem near_pow : ∀ n : Nat, n ≤ 2700000 → (rat (cs (an n)) - Cn ((n : Rl) * gam)) * (rat (cs (an n)) - Cn ((n : Rl) * gam)) + (rat (sn (an n)) - Sn ((n : Rl) * gam)) * (rat (sn (an n)) - Sn ((n : Rl) * gam)) ≤ ((n : Rl) * du) * ((n : Rl) * du)
  | 0, _ => by
    have : ((0 : Nat) : Rl) = 0 := rfl
    rw [an_zero, cs_zero.1, cs_zero.2, this, show (0 : Rl) * gam = 0 by grind, Cn_zero, Sn_zero, rat_one, rat_zero]
    grind
  | n + 1, h => by
    have ih := near_pow n (by omega)
    obtain ⟨s1, s2⟩ := Go.Sine.one_step h
    have d := in_du s1 s2
    have g := gam_all
    rw [rat_sub, rat_sub, rat_sub, rat_add, rat_mul, rat_mul, rat_mul, rat_mul] at d
    rw [cast_succ, show ((n : Rl) + 1) * gam = (n : Rl) * gam + gam by grind, Cn_add, Sn_add, g.2.2.1, g.2.2.2]
    have pn := ps_ne
    have c0 := cast_nonneg n
    have dp := du_pos
    generalize rat pc = p at *
    generalize rat ps = q at *
    generalize rat (cs (an n)) = c at *
    generalize rat (sn (an n)) = s at *
    generalize Cn ((n : Rl) * gam) = x at *
    generalize Sn ((n : Rl) * gam) = y at *
    generalize rat (cs (an (n + 1))) = C at *
    generalize rat (sn (an (n + 1))) = S at *
    have rot : ((c - x) * p - (s - y) * q) * ((c - x) * p - (s - y) * q) + ((s - y) * p + (c - x) * q) * ((s - y) * p + (c - x) * q) ≤ ((n : Rl) * du) * ((n : Rl) * du) := by
      have e : ((c - x) * p - (s - y) * q) * ((c - x) * p - (s - y) * q) + ((s - y) * p + (c - x) * q) * ((s - y) * p + (c - x) * q) = ((c - x) * (c - x) + (s - y) * (s - y)) * (p * p + q * q) := by grind
      rw [e, pn]
      grind
    have l := len_add (mul_nonneg c0 (Std.le_of_lt dp)) (Std.le_of_lt dp) rot d
    rw [show ((n : Rl) + 1) * du = (n : Rl) * du + du by grind]
    have e1 : C - (x * p - y * q) = (c - x) * p - (s - y) * q + (C - (c * p - s * q)) := by grind
    have e2 : S - (y * p + x * q) = (s - y) * p + (c - x) * q + (S - (s * p + c * q)) := by grind
    rw [e1, e2]
    exact l
theorem within {a b V : Rl} (hV : 0 ≤ V) (h : a * a + b * b ≤ V * V) : (-V ≤ a ∧ a ≤ V) ∧ (-V ≤ b ∧ b ≤ V) := by
  have sa := sq_pos a
  have sb := sq_pos b
  have a1 := le_of_sq (x := a) hV (by grind)
  have a2 := le_of_sq (x := -a) hV (by grind)
  have b1 := le_of_sq (x := b) hV (by grind)
  have b2 := le_of_sq (x := -b) hV (by grind)
  grind
noncomputable def dv : Rl := rat (1 / 2 ^ 90)
theorem near_pow2 {n : Nat} (h : n ≤ 2700000) : (-dv ≤ rat (cs (an n)) - Cn ((n : Rl) * gam) ∧ rat (cs (an n)) - Cn ((n : Rl) * gam) ≤ dv) ∧ (-dv ≤ rat (sn (an n)) - Sn ((n : Rl) * gam) ∧ rat (sn (an n)) - Sn ((n : Rl) * gam) ≤ dv) := by
  have k := near_pow n h
  have dp := du_pos
  have c0 := cast_nonneg n
  have w := within (mul_nonneg c0 (Std.le_of_lt dp)) k
  have hn : (n : Rl) * du ≤ dv := by
    have h1 : (n : Rl) ≤ 2700000 := rat_le.mpr (Rat.natCast_le_natCast.mpr h)
    have h2 := mul_mono h1 (show du ≤ du from rle_refl _) (Std.le_of_lt dp) (by grind)
    have h3 : 2700000 * du ≤ dv := by
      unfold du dv
      rw [show (2700000 : Rl) = rat ((2700000 : Nat) : Rat) from rfl, ← rat_mul]
      exact rat_le.mpr (by decide +kernel)
    grind
  grind
theorem quarter_near : -(rat (1 / 2 ^ 56)) ≤ Cn (5400000 * gam) ∧ Cn (5400000 * gam) ≤ rat (1 / 2 ^ 56) := by
  have k := near_pow2 (n := 2700000) (Nat.le_refl _)
  obtain ⟨e1, e2⟩ := Go.Sine.eighth
  have f1 := small2 e1
  have f2 := rat_le.mpr e2.1
  have f3 := rat_le.mpr e2.2
  rw [show ((2700000 : Nat) : Rl) = (2700000 : Rl) from rfl] at k
  rw [show (5400000 : Rl) * gam = 2700000 * gam + 2700000 * gam by grind, Cn_add]
  rw [rat_sub] at f1
  rw [rat_add] at f2 f3
  rw [rat_zero] at f2
  have r := Cn_range (2700000 * gam)
  have ed : dv ≤ rat (1 / 2 ^ 60) := rat_le.mpr (by decide +kernel)
  have e4 : rat (1 / 2 ^ 58) + 2 * rat (1 / 2 ^ 60) ≤ rat (3 / 2 ^ 59) := by
    rw [show (2 : Rl) = rat 2 from rfl, ← rat_mul, ← rat_add]
    exact rat_le.mpr (by decide +kernel)
  have e5 : 2 * rat (3 / 2 ^ 59) ≤ rat (1 / 2 ^ 56) := by
    rw [show (2 : Rl) = rat 2 from rfl, ← rat_mul]
    exact rat_le.mpr (by decide +kernel)
  have p59 : 0 ≤ rat (3 / 2 ^ 59) := Std.le_of_lt (rat_pos.mpr (by decide +kernel))
  have e6 : rat (3 / 2) + 2 * rat (1 / 2 ^ 60) ≤ 2 := by
    rw [show (2 : Rl) = rat 2 from rfl, ← rat_mul, ← rat_add]
    exact rat_le.mpr (by decide +kernel)
  have e7 : 2 * rat (1 / 2 ^ 60) ≤ 2 := by
    rw [show (2 : Rl) = rat 2 from rfl, ← rat_mul]
    exact rat_le.mpr (by decide +kernel)
  generalize Cn (2700000 * gam) = x at *
  generalize Sn (2700000 * gam) = y at *
  generalize rat (cs (an 2700000)) = c at *
  generalize rat (sn (an 2700000)) = s at *
  generalize rat (1 / 2 ^ 56) = a56 at *
  generalize rat (1 / 2 ^ 58) = a58 at *
  generalize rat (3 / 2 ^ 59) = a59 at *
  generalize rat (1 / 2 ^ 60) = a60 at *
  generalize dv = d at *
  generalize rat (3 / 2) = t at *
  have u1 : -a59 ≤ x - y ∧ x - y ≤ a59 := by constructor <;> grind
  have u2 : -2 ≤ x + y ∧ x + y ≤ 2 := by constructor <;> grind
  have m1 := mul_nonneg (show 0 ≤ a59 - (x - y) by grind) (show 0 ≤ 2 + (x + y) by grind)
  have m2 := mul_nonneg (show 0 ≤ a59 + (x - y) by grind) (show 0 ≤ 2 - (x + y) by grind)
  have m3 := mul_nonneg (show 0 ≤ a59 - (x - y) by grind) (show 0 ≤ 2 - (x + y) by grind)
  have m4 := mul_nonneg (show 0 ≤ a59 + (x - y) by grind) (show 0 ≤ 2 + (x + y) by grind)
  clear u1 u2 k r f1 f2 f3
  constructor <;> grind
noncomputable def dw : Rl := rat (1 / 2 ^ 56)
theorem dw_pos : 0 < dw := rat_pos.mpr (by decide +kernel)
theorem turn_near {x d : Rl} (hc : 0 ≤ Cn d) (h : -dw ≤ Sn d ∧ Sn d ≤ dw) : (-(2 * dw) ≤ Cn (x + d) - Cn x ∧ Cn (x + d) - Cn x ≤ 2 * dw) ∧ (-(2 * dw) ≤ Sn (x + d) - Sn x ∧ Sn (x + d) - Sn x ≤ 2 * dw) := by
  have n := nrm d
  rw [Cn_add, Sn_add]
  by_cases s : 0 ≤ Sn d
  · have t := turn_small (nrm x) n hc s
    grind
  · have t := turn_small (x := Cn x) (y := - Sn x) (c := Cn d) (s := - Sn d) (by have := nrm x; grind) (by grind) hc (by grind)
    grind
theorem unit_near {n : Nat} (h : n ≤ 2700000) : (-(2 * dw) ≤ Cn ((n : Rl) * gam) - Cn (n : Rl) ∧ Cn ((n : Rl) * gam) - Cn (n : Rl) ≤ 2 * dw) ∧ (-(2 * dw) ≤ Sn ((n : Rl) * gam) - Sn (n : Rl) ∧ Sn ((n : Rl) * gam) - Sn (n : Rl) ≤ 2 * dw) := by
  have g := gam_all
  have q := quarter_near
  have c0 := cast_nonneg n
  have c1 : (n : Rl) ≤ 2700000 := rat_le.mpr (Rat.natCast_le_natCast.mpr h)
  have e : (n : Rl) * gam = (n : Rl) + (n : Rl) * (gam - 1) := by grind
  rw [e]
  have qs : Sn (5400000 * (gam - 1)) = - Cn (5400000 * gam) := by
    have := Cn_addQ (5400000 * (gam - 1))
    rw [show 5400000 * (gam - 1) + 5400000 = 5400000 * gam by grind] at this
    grind
  have z := zero_lt_one
  have m1 := mul_nonneg c0 (show 0 ≤ 2 - gam by grind)
  have m2 := mul_nonneg c0 (show 0 ≤ gam by grind)
  apply turn_near
  · exact Cn_nonneg (by grind) (by grind)
  · by_cases s : 0 ≤ gam - 1
    · have m3 := mul_nonneg (show 0 ≤ 5400000 - (n : Rl) by grind) s
      have m4 := mul_nonneg c0 s
      have a := Sn_le (x := (n : Rl) * (gam - 1)) (y := 5400000 * (gam - 1)) (by grind) (by grind) (by grind)
      have b := Sn_nonneg (x := (n : Rl) * (gam - 1)) (by grind) (by grind)
      have := dw_pos
      unfold dw at *
      constructor <;> grind
    · have m3 := mul_nonneg (show 0 ≤ 5400000 - (n : Rl) by grind) (show 0 ≤ 1 - gam by grind)
      have m4 := mul_nonneg c0 (show 0 ≤ 1 - gam by grind)
      have a := Sn_le (x := 5400000 * (gam - 1)) (y := (n : Rl) * (gam - 1)) (by grind) (by grind) (by grind)
      have b := Sn_le (x := (n : Rl) * (gam - 1)) (y := 0) (by grind) (by grind) (by grind)
      rw [Sn_zero] at b
      have := dw_pos
      unfold dw at *
      constructor <;> grind
theorem sum_near {n : Nat} (h : n ≤ 2700000) : (-(rat (1 / 2 ^ 54)) ≤ rat (cs (an n)) - Cn (n : Rl) ∧ rat (cs (an n)) - Cn (n : Rl) ≤ rat (1 / 2 ^ 54)) ∧ (-(rat (1 / 2 ^ 54)) ≤ rat (sn (an n)) - Sn (n : Rl) ∧ rat (sn (an n)) - Sn (n : Rl) ≤ rat (1 / 2 ^ 54)) := by
  have a := unit_near h
  have b := near_pow2 h
  have c : 2 * dw + dv ≤ rat (1 / 2 ^ 54) := by
    unfold dw dv
    rw [show (2 : Rl) = rat 2 from rfl, ← rat_mul, ← rat_add]
    exact rat_le.mpr (by decide +kernel)
  grind
end Go.Re
