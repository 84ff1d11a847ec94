/- The squares of a sine and of a cosine: together no more than one, as rounded towards zero. -/
import Derived.Test.YtjdcicjhpegphaaGreatMrgG
namespace Go.Proofs.YtjdcicjhpegphaaGreat
open Go Go.Abs Go.RowKit Go.Sine
set_option linter.unusedVariables false
set_option linter.unusedSimpArgs false
def DD (x : Rat) : Rat := sn x * sn x + cs x * cs x
theorem an_zero : an 0 = 0 ∧ sn 0 = 0 ∧ cs 0 = 1 := by
  refine ⟨by decide +kernel, by decide +kernel, by decide +kernel⟩
theorem an_1024 : 3000 * an 1024 ≤ 1 := by decide +kernel
theorem an_mono {a b : Nat} (h : a ≤ b) : an a ≤ an b := by
  obtain ⟨k, rfl⟩ := Nat.exists_eq_add_of_le h
  rw [an_add]
  have := an_nonneg k
  grind
theorem sq_near {A S E : Rat} (h1 : -E ≤ S - A) (h2 : S - A ≤ E) (s0 : 0 ≤ S) (s1 : S ≤ 1) (e0 : 0 ≤ E) : S * S ≤ A * A + 2 * E := by
  have m := mul_abs h1 h2 s0 s1 e0
  have q : 0 ≤ (S - A) * (S - A) := by
    rcases Rat.le_total (a := 0) (b := S - A) with p | p
    · exact Rat.mul_nonneg p p
    · have := Rat.mul_nonneg (a := -(S - A)) (b := -(S - A)) (by grind) (by grind)
      grind
  grind
theorem sq_nn (t : Rat) : 0 ≤ t * t := by
  rcases Rat.le_total (a := 0) (b := t) with p | p
  · exact Rat.mul_nonneg p p
  · have := Rat.mul_nonneg (a := -t) (b := -t) (by grind) (by grind)
    grind
def ep0 : Rat := 1 / 2 ^ 70
theorem ep0_pos : 0 ≤ ep0 ∧ ep0 ≤ 1 / 1000 := by unfold ep0; exact ⟨by decide +kernel, by decide +kernel⟩
theorem six_ep : (1 : Rat) / 729000000000000000000 ≤ 240 * ep0 := by unfold ep0; decide +kernel
theorem e_small {y : Rat} : e 2 y = y * y / 2 ∧ e 3 y = y * y * y / 6 ∧ e 4 y = y * y * y * y / 24 ∧ e 5 y = y * y * y * y * y / 120 ∧ e 6 y = y * y * y * y * y * y / 720 := by
  have b := e_one y
  have e2 : e 2 y = y * y / 2 := by have a := e_succ 1 y; have c : ((1 : Nat) : Rat) = 1 := rfl; rw [c, b] at a; grind
  have e3 : e 3 y = y * y * y / 6 := by have a := e_succ 2 y; have c : ((2 : Nat) : Rat) = 2 := rfl; rw [c, e2] at a; grind
  have e4 : e 4 y = y * y * y * y / 24 := by have a := e_succ 3 y; have c : ((3 : Nat) : Rat) = 3 := rfl; rw [c, e3] at a; grind
  have e5 : e 5 y = y * y * y * y * y / 120 := by have a := e_succ 4 y; have c : ((4 : Nat) : Rat) = 4 := rfl; rw [c, e4] at a; grind
  have e6 : e 6 y = y * y * y * y * y * y / 720 := by have a := e_succ 5 y; have c : ((5 : Nat) : Rat) = 5 := rfl; rw [c, e5] at a; grind
  exact ⟨e2, e3, e4, e5, e6⟩
theorem six_small {y : Rat} (hy : 0 ≤ y) (h : 3000 * y ≤ 1) : 0 ≤ (y * y) * (y * y) * (y * y) ∧ (y * y) * (y * y) * (y * y) ≤ 240 * ep0 ∧ 0 ≤ y * y ∧ y * y ≤ 1 := by
  have h3 : y ≤ 1 / 3000 := by grind
  have p2 : y * y ≤ 1 / 3000 * (1 / 3000) := mul_mono h3 h3 hy (by decide +kernel)
  have n2 : 0 ≤ y * y := Rat.mul_nonneg hy hy
  have p4 : (y * y) * (y * y) ≤ 1 / 3000 * (1 / 3000) * (1 / 3000 * (1 / 3000)) := mul_mono p2 p2 n2 (by decide +kernel)
  have n4 : 0 ≤ (y * y) * (y * y) := Rat.mul_nonneg n2 n2
  have p6 : (y * y) * (y * y) * (y * y) ≤ 1 / 3000 * (1 / 3000) * (1 / 3000 * (1 / 3000)) * (1 / 3000 * (1 / 3000)) := mul_mono p4 p2 n2 (by decide +kernel)
  refine ⟨Rat.mul_nonneg n4 n2, ?_, n2, ?_⟩
  · exact Rat.le_trans p6 (Rat.le_trans (by decide +kernel) six_ep)
  · exact Rat.le_trans p2 (by decide +kernel)
theorem small_g {y : Rat} (hy : 0 ≤ y) (h : 3000 * y ≤ 1) : ga y * ga y + si y * si y ≤ 1 + ep0 ∧ 3 * e 6 y ≤ ep0 := by
  obtain ⟨e2, e3, e4, e5, e6⟩ := @e_small y
  obtain ⟨n6, p6, n2, p2⟩ := six_small hy h
  have hg : ga y * ga y + si y * si y = 1 + (y * y) * (y * y) * (y * y) / 360 - (y * y) * (y * y) * (y * y) * (y * y) / 960 + (y * y) * (y * y) * (y * y) * (y * y) * (y * y) / 14400 := by
    unfold ga si
    rw [e_one, e2, e3, e4, e5]
    clear n6 p6 n2 p2 h hy e2 e3 e4 e5 e6
    grind
  have s6 : y * y * y * y * y * y = (y * y) * (y * y) * (y * y) := by clear hg n6 p6 n2 p2 h hy e2 e3 e4 e5 e6; grind
  rw [hg, e6, s6]
  clear hg s6 e2 e3 e4 e5 e6 h hy
  generalize y * y = q at *
  generalize q * q * q = u at *
  have n8 : 0 ≤ u * q := Rat.mul_nonneg n6 n2
  have c8 : u * q * q ≤ u * q * 1 := Rat.mul_le_mul_of_nonneg_left p2 n8
  generalize u * q = v at *
  generalize v * q = z at *
  generalize ep0 = E at *
  refine ⟨?_, ?_⟩ <;> grind
theorem two_e {X A E : Rat} (h : 3 * A ≤ E) (k : -(3 * A + E) ≤ X ∧ X ≤ 3 * A + E) : -(2 * E) ≤ X ∧ X ≤ 2 * E := by grind
theorem nn2 {a : Rat} (h : 0 ≤ a) : 0 ≤ 2 * a := by grind
theorem nn_add {a b : Rat} (h : 0 ≤ a) (k : 0 ≤ b) : 0 ≤ a + b := by grind
theorem le_3 {a b : Rat} (h : a ≤ b) (k : 3000 * b ≤ 1) : 3000 * a ≤ 1 := by grind
theorem sum_10 {S2 C2 A B Q M F E : Rat} (a : S2 ≤ A + 2 * (2 * E)) (b : C2 ≤ B + 2 * (2 * E)) (k : A + B = Q) (m : Q ≤ M + F) (m3 : F ≤ 2 * E) : S2 + C2 ≤ M + 10 * E := by grind
theorem ring_sq (s c g t : Rat) : (s * g + c * t) * (s * g + c * t) + (c * g - s * t) * (c * g - s * t) = (s * s + c * c) * (g * g + t * t) := by grind
theorem dist_1 (M E : Rat) : M * (1 + E) = M + M * E := by grind
theorem dd_add {S C s c g t E M : Rat} (s0 : 0 ≤ S) (s1 : S ≤ 1) (c0 : 0 ≤ C) (c1 : C ≤ 1) (e0 : 0 ≤ E) (hs : -(2 * E) ≤ S - (s * g + c * t) ∧ S - (s * g + c * t) ≤ 2 * E) (hc : -(2 * E) ≤ C - (c * g - s * t) ∧ C - (c * g - s * t) ≤ 2 * E)
    (hg : g * g + t * t ≤ 1 + E) (hM : s * s + c * c ≤ M) (h2 : M ≤ 2) : S * S + C * C ≤ M + 10 * E := by
  have e2 : 0 ≤ 2 * E := nn2 e0
  have a := sq_near hs.1 hs.2 s0 s1 e2
  have b := sq_near hc.1 hc.2 c0 c1 e2
  have d0 : 0 ≤ M := Rat.le_trans (nn_add (sq_nn s) (sq_nn c)) hM
  have m := mul_mono hM hg (nn_add (sq_nn g) (sq_nn t)) d0
  rw [dist_1] at m
  exact sum_10 a b (ring_sq s c g t) m (Rat.mul_le_mul_of_nonneg_right h2 e0)
theorem dd_step {r i : Nat} (hi : i ≤ 1024) (h : r + i ≤ 2700000) {M : Rat} (hM : DD (an r) ≤ M) (h2 : M ≤ 2) : DD (an (r + i)) ≤ M + 10 * ep0 := by
  have y0 := an_nonneg i
  have y1 : 3000 * an i ≤ 1 := le_3 (an_mono hi) an_1024
  obtain ⟨g1, g3⟩ := small_g y0 y1
  have hxy : an r + an i ≤ 1 := by rw [← an_add]; exact le1 (an_le h)
  have s := sn_add (an_nonneg r) y0 hxy
  have c := cs_add (an_nonneg r) y0 hxy
  have he : (1 : Rat) / 2 ^ 70 = ep0 := rfl
  rw [← an_add, he] at s c
  have s1 := sn_01 h
  have c1 := cs_01 h
  exact dd_add s1.1 s1.2 c1.1 c1.2 ep0_pos.1 (two_e g3 s) (two_e g3 c) g1 hM h2
theorem one_two {a : Rat} (h : a ≤ 1) : 1 + a ≤ 2 := by grind
theorem nn10 {a : Rat} (h : 0 ≤ a) : 0 ≤ 10 * a := by grind
theorem suc_1 {a J E : Rat} (h : a ≤ 1 + J * (10 * E) + 10 * E) : a ≤ 1 + (J + 1) * (10 * E) := by grind
theorem sum_2 {a u z : Rat} (h : a ≤ 1 + u) (k : u ≤ z) : a ≤ 1 + z := by grind
theorem dd_all : ∀ (j r : Nat), r ≤ 1024 * j → r ≤ 2700000 → j ≤ 2700 → DD (an r) ≤ 1 + (j : Rat) * (10 * ep0)
  | 0, r, h, _, _ => by
    have : r = 0 := by omega
    subst this
    obtain ⟨a, b, c⟩ := an_zero
    unfold DD
    rw [a, b, c]
    have z : ((0 : Nat) : Rat) = 0 := rfl
    rw [z]
    grind
  | j + 1, r, h, k, l => by
    have cj : ((j + 1 : Nat) : Rat) = (j : Rat) + 1 := by rw [Rat.natCast_add]; rfl
    have jb : (j : Rat) ≤ 2700 := Rat.natCast_le_natCast.mpr (by omega : j ≤ 2700)
    have e0 := ep0_pos
    have small : 1 + (j : Rat) * (10 * ep0) ≤ 2 := by
      have m : (j : Rat) * (10 * ep0) ≤ 2700 * (10 * ep0) := Rat.mul_le_mul_of_nonneg_right jb (by have := e0.1; exact nn10 this)
      have : 2700 * (10 * ep0) ≤ 1 := by unfold ep0; decide +kernel
      exact one_two (Rat.le_trans m this)
    rw [cj]
    by_cases c : r ≤ 1024
    · have z := dd_all j 0 (by omega) (by omega) (by omega)
      have := dd_step (r := 0) (i := r) c (by omega) z small
      rw [Nat.zero_add] at this
      exact suc_1 this
    · have z := dd_all j (r - 1024) (by omega) (by omega) (by omega)
      have := dd_step (r := r - 1024) (i := 1024) (Nat.le_refl _) (by omega) z small
      rw [show r - 1024 + 1024 = r by omega] at this
      exact suc_1 this
theorem dd_one {r : Nat} (h : r ≤ 2700000) : DD (an r) ≤ 1 + 1 / 2 ^ 54 := by
  have a := dd_all 2637 r (by omega) h (by omega)
  have c : ((2637 : Nat) : Rat) = 2637 := rfl
  rw [c] at a
  have b : (2637 : Rat) * (10 * ep0) ≤ 1 / 2 ^ 54 := by unfold ep0; decide +kernel
  exact sum_2 a b
end Go.Proofs.YtjdcicjhpegphaaGreat
