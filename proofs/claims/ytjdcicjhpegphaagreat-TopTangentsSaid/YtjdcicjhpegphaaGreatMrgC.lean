/- Several texts in one: TrgF, TrgG, TrhS, TrhV, TrhC, TrhD, TrhE, TriS, TriV, TriC. -/
import Derived.Test.YtjdcicjhpegphaaGreatMrgB
import Derived.Test.YtjdcicjhpegphaaGreatMrgN
/- The program's sine of a quarter is the sine, rounded down. -/
namespace Go.Proofs.YtjdcicjhpegphaaGreat
open Go Go.Abs Go.RowKit Go.Sine
set_option linter.unusedVariables false
set_option linter.unusedSimpArgs false
theorem i_le {a b : Int} (h : a ≤ b) : (a : Rat) ≤ (b : Rat) := Rat.intCast_le_intCast.mpr h
theorem i_lt {a b : Int} (h : a < b) : (a : Rat) < (b : Rat) := Rat.intCast_lt_intCast.mpr h
/-- 2^256 -/
def wR : Rat := 2 ^ 256
theorem W4_R : ((W4 : Int) : Rat) = wR := by unfold wR W4; decide +kernel
theorem wR_pos : (0 : Rat) < wR := by unfold wR; grind
theorem z2 : ((2 : Int) : Rat) = 2 := rfl
theorem z1 : ((1 : Int) : Rat) = 1 := rfl
theorem z0 : ((0 : Int) : Rat) = 0 := rfl
theorem mul_R {A B : Int} (hA : 0 ≤ A ∧ A < W4) (hB : 0 ≤ B ∧ B < W4) : wR * (mulI A B : Rat) ≤ (A : Rat) * B ∧ (A : Rat) * B ≤ wR * ((mulI A B : Rat) + 2) := by
  obtain ⟨_, h2, h3⟩ := mulI_bounds hA hB
  have h2 := i_le h2
  have h3 := i_le (Int.le_of_lt h3)
  rw [Rat.intCast_mul, Rat.intCast_mul, W4_R] at h2
  rw [Rat.intCast_mul, Rat.intCast_mul, W4_R, Rat.intCast_add, z2] at h3
  constructor <;> grind
/-- The series of rounds, exactly. -/
def lessR (z : Rat) (o : Nat) : Nat → Rat → Rat
  | 0, u => u
  | k + 1, u => lessR z o k (z / ((2 * k + 1 + o) * (2 * k + 2 + o) : Nat) * (1 - u))
theorem d_two (k o : Nat) : 2 ≤ (2 * k + 1 + o) * (2 * k + 2 + o) := Nat.mul_le_mul (show 1 ≤ 2 * k + 1 + o by omega) (show 2 ≤ 2 * k + 2 + o by omega)
theorem mul_le_one {a b : Rat} (ha : 0 ≤ a) (ha1 : a ≤ 1) (hb : 0 ≤ b) (hb1 : b ≤ 1) : 0 ≤ a * b ∧ a * b ≤ 1 := by
  have := Rat.mul_nonneg ha hb
  have := mul_mono ha1 hb1 hb (by decide : (0 : Rat) ≤ 1)
  constructor <;> grind
theorem idiv_R (Y : Int) (d : Nat) (hd : 0 < d) : (d : Rat) * ((Y / (d : Int) : Int) : Rat) ≤ Y ∧ (Y : Rat) ≤ (d : Rat) * (((Y / (d : Int) : Int) : Rat) + 1) := by
  have h1 : (d : Int) * (Y / (d : Int)) ≤ Y := Int.mul_ediv_self_le (by omega)
  have h2 : Y < (d : Int) * (Y / (d : Int)) + d := Int.lt_mul_ediv_self_add (by omega)
  have h1 := i_le h1
  have h2 := i_le (Int.le_of_lt h2)
  have c : ((d : Int) : Rat) = (d : Rat) := rfl
  rw [Rat.intCast_mul, c] at h1
  rw [Rat.intCast_add, Rat.intCast_mul, c] at h2
  constructor <;> grind
/-- One round: its error. -/
theorem round_err {Y q U : Int} {z u : Rat} {d : Nat} (hd : 2 ≤ d) (hY : 0 ≤ Y ∧ Y < W4) (hq : q = Y / (d : Int)) (hYz : -2 ≤ (Y : Rat) - wR * z ∧ (Y : Rat) - wR * z ≤ 2) (hz : 0 ≤ z ∧ z ≤ 1) (hu : 0 ≤ u ∧ u ≤ 1) (hU : 0 ≤ U ∧ U < W4) (hUu : -8 ≤ (U : Rat) - wR * u ∧ (U : Rat) - wR * u ≤ 8) :
    (q - mulI q U) % W4 = q - mulI q U ∧ (0 ≤ q - mulI q U ∧ q - mulI q U < W4) ∧ (-8 ≤ ((q - mulI q U : Int) : Rat) - wR * (z / d * (1 - u)) ∧ ((q - mulI q U : Int) : Rat) - wR * (z / d * (1 - u)) ≤ 8) ∧ (0 ≤ z / d * (1 - u) ∧ z / d * (1 - u) ≤ 1) := by
  have hq0 : 0 ≤ q := by rw [hq]; exact Int.ediv_nonneg hY.1 (by omega)
  have hqY : q ≤ Y := by rw [hq]; exact Int.ediv_le_self _ hY.1
  have hq1 : 0 ≤ q ∧ q < W4 := ⟨hq0, Int.lt_of_le_of_lt hqY hY.2⟩
  obtain ⟨m0, _⟩ := mulI_lt hq1 hU
  obtain ⟨m1, m2⟩ := mul_R hq1 hU
  have wp := wR_pos
  have Uw : (U : Rat) ≤ wR := by rw [← W4_R]; exact i_le (Int.le_of_lt hU.2)
  have U0 : (0 : Rat) ≤ U := by rw [← z0]; exact i_le hU.1
  have q0 : (0 : Rat) ≤ q := by rw [← z0]; exact i_le hq0
  have mq : mulI q U ≤ q := by
    have h : wR * (mulI q U : Rat) ≤ wR * q := by
      have := Rat.mul_le_mul_of_nonneg_left Uw q0
      grind
    exact Rat.intCast_le_intCast.mp (le_cancel wp h)
  have r : 0 ≤ q - mulI q U ∧ q - mulI q U < W4 := by omega
  refine ⟨Int.emod_eq_of_lt r.1 r.2, r, ?_⟩
  obtain ⟨d1, d2⟩ := idiv_R Y d (by omega)
  rw [← hq] at d1 d2
  have dR : (2 : Rat) ≤ d := cast_le hd
  have dp : (0 : Rat) < d := by grind
  -- the quotient z / d
  obtain ⟨v, hv⟩ : ∃ v, z / (d : Rat) = v := ⟨_, rfl⟩
  have hv' : (d : Rat) * v = z := by rw [← hv]; have : (d : Rat) ≠ 0 := by grind
                                     rw [Rat.mul_comm, Rat.div_mul_cancel this]
  rw [hv]
  have v0 : 0 ≤ v := le_cancel dp (by grind)
  have v2 : 2 * v ≤ 1 := by
    have := Rat.mul_le_mul_of_nonneg_right dR v0
    grind
  -- the error of q
  have hw : (d : Rat) * (wR * v) = wR * z := by rw [← hv']; grind
  have qe : -2 ≤ (q : Rat) - wR * v ∧ (q : Rat) - wR * v ≤ 2 := by
    generalize (q : Rat) = Q at *
    generalize wR * v = p at *
    generalize wR * z = p' at *
    clear hv hv' mq r hq hqY hq1 m0 hY hU m1 m2 Uw U0 hUu
    have h1 : (d : Rat) * (p - 2) ≤ d * Q := by grind
    have h2 : (d : Rat) * Q ≤ d * (p + 2) := by grind
    have h1 := le_cancel dp h1
    have h2 := le_cancel dp h2
    constructor <;> grind
  have b := mul_le_one v0 (by grind) (show 0 ≤ 1 - u by grind) (by grind)
  refine ⟨?_, b⟩
  rw [Rat.intCast_sub]
  -- everything times wR
  have k1 := Rat.mul_le_mul_of_nonneg_right qe.1 (show 0 ≤ wR - U by grind)
  have k2 := Rat.mul_le_mul_of_nonneg_right qe.2 (show 0 ≤ wR - U by grind)
  have k3 := Rat.mul_le_mul_of_nonneg_left hUu.1 v0
  have k4 := Rat.mul_le_mul_of_nonneg_left hUu.2 v0
  have k5 := Rat.mul_le_mul_of_nonneg_left k3 (Rat.le_of_lt wp)
  have k6 := Rat.mul_le_mul_of_nonneg_left k4 (Rat.le_of_lt wp)
  have k7 := Rat.mul_le_mul_of_nonneg_left v2 (Rat.le_of_lt wp)
  generalize (mulI q U : Rat) = M at *
  generalize (q : Rat) = Q at *
  generalize (U : Rat) = V at *
  clear d1 d2 hv' hYz mq r hq hqY hq1 m0 hY hU dR
  constructor
  · exact le_cancel wp (by grind)
  · exact le_cancel wp (by grind)
theorem less_err {Y : Int} {z : Rat} {o : Nat} (hY : 0 ≤ Y ∧ Y < W4) (hYz : -2 ≤ (Y : Rat) - wR * z ∧ (Y : Rat) - wR * z ≤ 2) (hz : 0 ≤ z ∧ z ≤ 1) : ∀ k {U : Int} {u : Rat}, (0 ≤ U ∧ U < W4) → (0 ≤ u ∧ u ≤ 1) → (-8 ≤ (U : Rat) - wR * u ∧ (U : Rat) - wR * u ≤ 8) →
    (-8 ≤ (lessI Y o k U : Rat) - wR * lessR z o k u ∧ (lessI Y o k U : Rat) - wR * lessR z o k u ≤ 8) ∧ (0 ≤ lessR z o k u ∧ lessR z o k u ≤ 1)
  | 0, U, u, _, hu, h => ⟨h, hu⟩
  | k + 1, U, u, hU, hu, h => by
    have e : (2 * (k : Int) + 1 + (o : Int)) * (2 * k + 2 + o) = (((2 * k + 1 + o) * (2 * k + 2 + o) : Nat) : Int) := by simp
    obtain ⟨a1, a2, a3, a4⟩ := round_err (q := Y / (((2 * k + 1 + o) * (2 * k + 2 + o) : Nat) : Int)) (d_two k o) hY rfl hYz hz hu hU h
    have := less_err (o := o) hY hYz hz k a2 a4 a3
    unfold lessI lessR
    rw [e, a1]
    exact this
/-- The series is the sum with alternating signs. -/
theorem less_F (x : Rat) (o : Nat) : ∀ k N u, F cg (2 * k + o) N x = e (2 * k + o) x * (1 - u) → F cg o (2 * k + N) x = e o x * (1 - lessR (x * x) o k u)
  | 0, N, u, h => by
    rw [Nat.mul_zero, Nat.zero_add] at h
    rw [Nat.mul_zero, Nat.zero_add]
    exact h
  | k + 1, N, u, h => by
    rw [show 2 * (k + 1) + N = 2 * k + (N + 2) by omega]
    unfold lessR
    apply less_F x o k (N + 2)
    rw [F_cg, show 2 * k + o + 2 = 2 * (k + 1) + o by omega, h]
    have q1 := e_succ (2 * k + o + 1) x
    have q2 := e_succ (2 * k + o) x
    have c : ((2 * k + o + 1 : Nat) : Rat) = ((2 * k + o : Nat) : Rat) + 1 := by simp
    rw [c] at q1
    have hD : (((2 * k + 1 + o) * (2 * k + 2 + o) : Nat) : Rat) = (((2 * k + o : Nat) : Rat) + 1) * (((2 * k + o : Nat) : Rat) + 2) := by
      have e1 : ((2 * k + 1 + o : Nat) : Rat) = ((2 * k + o : Nat) : Rat) + 1 := by rw [← c]; congr 1; omega
      have e2 : ((2 * k + 2 + o : Nat) : Rat) = ((2 * k + o : Nat) : Rat) + 2 := by
        rw [show 2 * k + 2 + o = (2 * k + o) + 2 by omega, Rat.natCast_add]; rfl
      rw [Rat.natCast_mul, e1, e2]
    have d2 := cast_le (d_two k o)
    have z2' : ((2 : Nat) : Rat) = 2 := rfl
    rw [z2'] at d2
    have eD : (((2 * k + 1 + o) * (2 * k + 2 + o) : Nat) : Rat) * e (2 * (k + 1) + o) x = x * x * e (2 * k + o) x := by
      rw [hD, show 2 * (k + 1) + o = 2 * k + o + 1 + 1 by omega]
      grind
    generalize (((2 * k + 1 + o) * (2 * k + 2 + o) : Nat) : Rat) = D at *
    have hv : D * (x * x / D) = x * x := by rw [Rat.mul_comm, Rat.div_mul_cancel (by grind)]
    generalize x * x / D = v at *
    have Dp : 0 < D := by grind
    have key : e (2 * (k + 1) + o) x = v * e (2 * k + o) x := mul_cancel Dp (by grind)
    rw [key]
    grind
theorem sum69 (x : Rat) (o : Nat) : F cg o 69 x = e o x * (1 - lessR (x * x) o 34 0) := by
  have := less_F x o 34 1 0 (by rw [F_cg1]; grind)
  exact this
/-- Sums that end elsewhere. -/
theorem F_close {x : Rat} (hx : 0 ≤ x) (h1 : x ≤ 1) : ∀ k a M N, -(4 * e (a + 2 * k) x) ≤ F cg a (2 * k + M) x - F cg a (2 * k + N) x ∧ F cg a (2 * k + M) x - F cg a (2 * k + N) x ≤ 4 * e (a + 2 * k) x
  | 0, a, M, N => by
    have u := (F_two hx h1 M a).1
    have v := (F_two hx h1 N a).1
    rw [Nat.mul_zero, Nat.zero_add, Nat.zero_add, Nat.add_zero]
    constructor <;> grind
  | k + 1, a, M, N => by
    have := F_close hx h1 k (a + 2) M N
    rw [show 2 * (k + 1) + M = 2 * k + M + 2 by omega, show 2 * (k + 1) + N = 2 * k + N + 2 by omega, F_cg, F_cg, show a + 2 * (k + 1) = a + 2 + 2 * k by omega]
    constructor <;> grind
theorem e_68 {x : Rat} (hx : 0 ≤ x) (h1 : x ≤ 1) (j : Nat) (hj : 68 ≤ j) : 2 ^ 67 * e j x ≤ 1 := by
  obtain ⟨i, rfl⟩ : ∃ i, j = (67 + i) + 1 := ⟨j - 68, by omega⟩
  have t := e_tiny hx h1 (67 + i)
  have p : (1 : Rat) ≤ 2 ^ i := by
    clear t hj
    induction i with
    | zero => decide
    | succ i ih => rw [Rat.pow_succ]; grind
  have n0 := e_nonneg hx (67 + i + 1)
  rw [pow_addQ] at t
  have u := Rat.mul_le_mul_of_nonneg_right p n0
  have v := Rat.mul_le_mul_of_nonneg_left u (show (0 : Rat) ≤ 2 ^ 67 by decide)
  grind
/-- The number, times 2^30, rounded down. -/
def IsFl (m : Int) (T : Rat) : Prop := (m : Rat) ≤ 2 ^ 30 * T ∧ 2 ^ 30 * T < (m : Rat) + 1
theorem isFl_one {m n : Int} {T : Rat} (h : IsFl m T) (k : IsFl n T) : m = n := by
  have a : (m : Rat) < (n : Rat) + 1 := by have := h.1; have := k.2; grind
  have b : (n : Rat) < (m : Rat) + 1 := by have := k.1; have := h.2; grind
  have a : m < n + 1 := Rat.intCast_lt_intCast.mp (by rw [Rat.intCast_add, z1]; exact a)
  have b : n < m + 1 := Rat.intCast_lt_intCast.mp (by rw [Rat.intCast_add, z1]; exact b)
  omega
/-- A number that is near one that is far from all multiples has the same integer below. -/
theorem isFl_near {V : Int} {q : Nat} {T : Rat} (hF : Far T) (hV : -600 ≤ (V : Rat) * (1 / 2 ^ q) - 2 ^ 62 * T ∧ (V : Rat) * (1 / 2 ^ q) - 2 ^ 62 * T ≤ 600) : IsFl (V / (2 ^ (32 + q) : Int)) T := by
  have hp : (0 : Int) < 2 ^ (32 + q) := Int.pow_pos (by decide)
  have h1 : (2 ^ (32 + q) : Int) * (V / (2 ^ (32 + q) : Int)) ≤ V := Int.mul_ediv_self_le (Int.ne_of_gt hp)
  have h2 : V < (2 ^ (32 + q) : Int) * (V / (2 ^ (32 + q) : Int)) + 2 ^ (32 + q) := Int.lt_mul_ediv_self_add hp
  have h1 := i_le h1
  have h2 := i_lt h2
  generalize V / (2 ^ (32 + q) : Int) = m at *
  rw [Rat.intCast_mul, Rat.intCast_pow, z2, pow_addQ] at h1
  rw [Rat.intCast_add, Rat.intCast_mul, Rat.intCast_pow, z2, pow_addQ] at h2
  have Qp : (0 : Rat) < 2 ^ q := Rat.pow_pos (by decide)
  have hinv : (2 : Rat) ^ q * (1 / 2 ^ q) = 1 := by rw [Rat.mul_comm, Rat.div_mul_cancel (by grind)]
  generalize (2 : Rat) ^ q = Q at *
  generalize 1 / Q = R at *
  have Rp : 0 ≤ R := by
    have : Q * 0 ≤ Q * R := by rw [hinv]; grind
    exact le_cancel Qp this
  have k1 := Rat.mul_le_mul_of_nonneg_right h1 Rp
  have k2 := Rat.mul_le_mul_of_nonneg_right (Rat.le_of_lt h2) Rp
  have e1 : 2 ^ 32 * Q * (m : Rat) * R = 2 ^ 32 * m := by rw [show 2 ^ 32 * Q * (m : Rat) * R = 2 ^ 32 * m * (Q * R) by grind, hinv]; grind
  have e2 : (2 ^ 32 * Q * (m : Rat) + 2 ^ 32 * Q) * R = 2 ^ 32 * m + 2 ^ 32 := by rw [show (2 ^ 32 * Q * (m : Rat) + 2 ^ 32 * Q) * R = (2 ^ 32 * m + 2 ^ 32) * (Q * R) by grind, hinv]; grind
  rw [e1] at k1
  rw [e2] at k2
  have f1 := hF m
  have f2 := hF (m + 1)
  have f3 := hF (m - 1)
  rw [Rat.intCast_add, z1] at f2
  rw [Rat.intCast_sub, z1] at f3
  generalize (V : Rat) * R = v at *
  clear h1 h2 e1 e2 hinv Rp Qp
  constructor <;> grind
/-- Sines and cosines of angles that lie near each other. -/
theorem sn_lip {x y : Rat} (hx : 0 ≤ x) (hy : 0 ≤ y) (h1 : x + y ≤ 1) : -(8 * y + 1 / 2 ^ 70) ≤ sn (x + y) - sn x ∧ sn (x + y) - sn x ≤ 8 * y + 1 / 2 ^ 70 := by
  have a := sn_add hx hy h1
  have s := sn_le hx (by grind)
  have c := cs_le hx (by grind)
  have ch := cs_half hx (by grind)
  have y1 : y ≤ 1 := by grind
  have e1 := e_one y
  have n2 := e_nonneg hy 2; have n3 := e_nonneg hy 3; have n4 := e_nonneg hy 4; have n5 := e_nonneg hy 5; have n6 := e_nonneg hy 6
  have l2 := (e_le hy y1 0).1; have l3 := e_half hy y1 1; have l4 := e_half hy y1 2; have l5 := e_half hy y1 3; have l6 := e_half hy y1 4
  have g1 : -y ≤ ga y - 1 ∧ ga y - 1 ≤ y := by unfold ga; constructor <;> grind
  have g2 : 0 ≤ si y ∧ si y ≤ 2 * y := by unfold si; constructor <;> grind
  have m1 := mul_abs g1.1 g1.2 s.1 (by grind) hy
  have m2 := mul_abs (a := si y) (d := 2 * y) (t := cs x) (by grind) g2.2 (by grind) c.2 (by grind)
  constructor <;> grind
theorem cs_lip {x y : Rat} (hx : 0 ≤ x) (hy : 0 ≤ y) (h1 : x + y ≤ 1) : -(8 * y + 1 / 2 ^ 70) ≤ cs (x + y) - cs x ∧ cs (x + y) - cs x ≤ 8 * y + 1 / 2 ^ 70 := by
  have a := cs_add hx hy h1
  have s := sn_le hx (by grind)
  have c := cs_le hx (by grind)
  have ch := cs_half hx (by grind)
  have y1 : y ≤ 1 := by grind
  have e1 := e_one y
  have n2 := e_nonneg hy 2; have n3 := e_nonneg hy 3; have n4 := e_nonneg hy 4; have n5 := e_nonneg hy 5; have n6 := e_nonneg hy 6
  have l2 := (e_le hy y1 0).1; have l3 := e_half hy y1 1; have l4 := e_half hy y1 2; have l5 := e_half hy y1 3; have l6 := e_half hy y1 4
  have g1 : -y ≤ ga y - 1 ∧ ga y - 1 ≤ y := by unfold ga; constructor <;> grind
  have g2 : 0 ≤ si y ∧ si y ≤ 2 * y := by unfold si; constructor <;> grind
  have m1 := mul_abs g1.1 g1.2 (t := cs x) (by grind) c.2 hy
  have m2 := mul_abs (a := si y) (d := 2 * y) (t := sn x) (by grind) g2.2 s.1 (by grind) (by grind)
  constructor <;> grind
theorem lip_any {f : Rat → Rat} (hf : ∀ x y, 0 ≤ x → 0 ≤ y → x + y ≤ 1 → -(8 * y + 1 / 2 ^ 70) ≤ f (x + y) - f x ∧ f (x + y) - f x ≤ 8 * y + 1 / 2 ^ 70) {x z d : Rat} (hx : 0 ≤ x) (hz : 0 ≤ z) (x1 : x ≤ 1) (z1 : z ≤ 1) (h : -d ≤ x - z ∧ x - z ≤ d) :
    -(8 * d + 1 / 2 ^ 70) ≤ f x - f z ∧ f x - f z ≤ 8 * d + 1 / 2 ^ 70 := by
  rcases Rat.le_total (a := x) (b := z) with q | q
  · have k := hf x (z - x) hx (by grind) (by grind)
    rw [show x + (z - x) = z by grind] at k
    constructor <;> grind
  · have k := hf z (x - z) hz (by grind) (by grind)
    rw [show z + (x - z) = x by grind] at k
    constructor <;> grind
/-- The program's angle is near the angle. -/
theorem rad_near {n : Nat} (h : n ≤ 2700000) : -(1 : Rat) ≤ 2 ^ 60 * ((radI n : Rat) / wR - an n) ∧ 2 ^ 60 * ((radI n : Rat) / wR - an n) ≤ 1 := by
  have e1 : (10800000 : Int) * radI n ≤ piI * n := by unfold radI; exact Int.mul_ediv_self_le (by decide)
  have e2 : piI * n < (10800000 : Int) * radI n + 10800000 := by unfold radI; exact Int.lt_mul_ediv_self_add (by decide)
  -- pi, as the program and as the reference have it
  have p1 : (U : Int) * 10800000 * 2 ^ 172 ≤ piI := by unfold U piI; decide +kernel
  have p2 : piI ≤ ((U : Int) + 1) * 10800000 * 2 ^ 172 := by unfold U piI; decide +kernel
  have n1 : (U : Int) * 10800000 * 2 ^ 172 * n ≤ piI * n := Int.mul_le_mul_of_nonneg_right p1 (by omega)
  have n2 : piI * n ≤ ((U : Int) + 1) * 10800000 * 2 ^ 172 * n := Int.mul_le_mul_of_nonneg_right p2 (by omega)
  have r1 : (n : Int) * U * 2 ^ 172 ≤ radI n + 1 := by
    have : (10800000 : Int) * (n * U * 2 ^ 172) ≤ 10800000 * (radI n + 1) := by
      have : (10800000 : Int) * (n * U * 2 ^ 172) = U * 10800000 * 2 ^ 172 * n := by grind
      omega
    omega
  have r2 : radI n ≤ (n : Int) * U * 2 ^ 172 + n * 2 ^ 172 := by
    have : (10800000 : Int) * radI n ≤ 10800000 * ((n : Int) * U * 2 ^ 172 + n * 2 ^ 172) := by
      have : (10800000 : Int) * ((n : Int) * U * 2 ^ 172 + n * 2 ^ 172) = (U + 1) * 10800000 * 2 ^ 172 * n := by grind
      omega
    omega
  have r1 := i_le r1
  have r2 := i_le r2
  have nn : (n : Rat) ≤ 2700000 := by have := cast_le h; exact this
  have n0 : (0 : Rat) ≤ n := Rat.natCast_nonneg
  simp only [Rat.intCast_add, Rat.intCast_mul, Rat.intCast_pow, z2, z1] at r1 r2
  have cn : (((n : Nat) : Int) : Rat) = (n : Rat) := rfl
  have cu : (((U : Nat) : Int) : Rat) = (U : Rat) := rfl
  rw [cn, cu] at r1 r2
  have ha : an n = (n : Rat) * U / 2 ^ 84 := by unfold an; rw [Rat.natCast_mul]
  rw [ha]
  unfold wR
  generalize (radI n : Rat) = R at *
  generalize (n : Rat) * (U : Rat) = P at *
  clear e1 e2 p1 p2 n1 n2 h
  constructor <;> grind
end Go.Proofs.YtjdcicjhpegphaaGreat

/- The program's sine of a quarter is the sine, rounded down. -/
namespace Go.Proofs.YtjdcicjhpegphaaGreat
open Go Go.Abs Go.RowKit Go.Sine
set_option linter.unusedVariables false
set_option linter.unusedSimpArgs false
/-- A number of the program's, as a part of 1. -/
theorem part {X : Int} (h : 0 ≤ X ∧ X < W4) : ∃ x : Rat, (X : Rat) = wR * x ∧ 0 ≤ x ∧ x ≤ 1 ∧ (X : Rat) / wR = x := by
  have wp := wR_pos
  have hx : wR * ((X : Rat) / wR) = X := by rw [Rat.mul_comm, Rat.div_mul_cancel (by grind)]
  have h0 : (0 : Rat) ≤ X := by rw [← z0]; exact i_le h.1
  have h1 : (X : Rat) ≤ wR := by rw [← W4_R]; exact i_le (Int.le_of_lt h.2)
  refine ⟨_, hx.symm, ?_, ?_, rfl⟩
  · exact le_cancel wp (by rw [hx]; grind)
  · exact le_cancel wp (by rw [hx]; grind)
theorem square_err {X : Int} (h : 0 ≤ X ∧ X < W4) {x : Rat} (hX : (X : Rat) = wR * x) : -2 ≤ (mulI X X : Rat) - wR * (x * x) ∧ (mulI X X : Rat) - wR * (x * x) ≤ 2 := by
  obtain ⟨m1, m2⟩ := mul_R h h
  have wp := wR_pos
  rw [hX] at m1 m2
  constructor
  · have : wR * (wR * (x * x) - 2) ≤ wR * (mulI X X : Rat) := by grind
    have := le_cancel wp this
    grind
  · have : wR * (mulI X X : Rat) ≤ wR * (wR * (x * x) + 2) := by grind
    have := le_cancel wp this
    grind
/-- The program's sine of an angle in 256 digits. -/
theorem sinX_err {X : Int} (h : 0 ≤ X ∧ X < W4) {x : Rat} (hX : (X : Rat) = wR * x) (x0 : 0 ≤ x) (x1 : x ≤ 1) : -10 ≤ (sinX X : Rat) - wR * F cg 1 69 x ∧ (sinX X : Rat) - wR * F cg 1 69 x ≤ 10 := by
  have wp := wR_pos
  have sq := square_err h hX
  have Yb := mulI_lt h h
  have xx := mul_le_one x0 x1 x0 x1
  obtain ⟨L, lb⟩ := less_err (o := 1) Yb sq xx 34 (U := 0) (u := 0) ⟨Int.le_refl _, by decide⟩ ⟨Rat.le_refl, by decide⟩ (by rw [z0]; constructor <;> grind)
  have Ll := lessI_lt (mulI X X) 1 34 (Int.le_refl 0) (by decide)
  have s69 := sum69 x 1
  rw [e_one] at s69
  have c1 : (((1 : Nat) : Int)) = 1 := rfl
  rw [c1] at L
  unfold sinX
  generalize lessI (mulI X X) 1 34 0 = l at *
  obtain ⟨M0, _⟩ := mulI_lt h Ll
  obtain ⟨m1, m2⟩ := mul_R h Ll
  have l1 : (l : Rat) ≤ wR := by rw [← W4_R]; exact i_le (Int.le_of_lt Ll.2)
  have M1 : mulI X l ≤ X := by
    have : wR * (mulI X l : Rat) ≤ wR * X := by
      have X0 : (0 : Rat) ≤ X := by rw [← z0]; exact i_le h.1
      have := Rat.mul_le_mul_of_nonneg_left l1 X0
      grind
    exact Rat.intCast_le_intCast.mp (le_cancel wp this)
  rw [Int.emod_eq_of_lt (by omega) (by omega), s69, Rat.intCast_sub]
  rw [hX] at m1 m2
  have k1 := Rat.mul_le_mul_of_nonneg_left L.1 x0
  have k2 := Rat.mul_le_mul_of_nonneg_left L.2 x0
  have k3 := Rat.mul_le_mul_of_nonneg_left k1 (Rat.le_of_lt wp)
  have k4 := Rat.mul_le_mul_of_nonneg_left k2 (Rat.le_of_lt wp)
  have k5 := Rat.mul_le_mul_of_nonneg_left x1 (Rat.le_of_lt wp)
  rw [hX]
  generalize lessR (x * x) 1 34 0 = E at *
  generalize (l : Rat) = l' at *
  generalize (mulI X l : Rat) = M at *
  clear hX M1 M0 Ll Yb sq s69 xx lb L k1 k2 h l1
  constructor
  · exact le_cancel wp (by grind)
  · exact le_cancel wp (by grind)
/-- One less the cosine is not too small. -/
theorem vers_pos {x : Rat} (x0 : 0 ≤ x) (x1 : x ≤ 1) : x * x ≤ 4 * (1 - F cg 0 69 x) := by
  rw [show (69 : Nat) = 67 + 2 from rfl, F_cg, show (67 : Nat) = 65 + 2 from rfl, F_cg]
  have k := (F_two x0 x1 65 (0 + 2 + 2)).1
  have e2 := e_two x
  have e4 := e_four x
  have e0 := e_zero x
  have xx := mul_le_one x0 x1 x0 x1
  have := Rat.mul_le_mul_of_nonneg_left xx.2 xx.1
  grind
theorem cosX_err {X : Int} (h : 0 ≤ X ∧ X < W4) {x : Rat} (hX : (X : Rat) = wR * x) (x0 : 1 ≤ 2 ^ 23 * x) (x1 : x ≤ 1) : -10 ≤ (cosX X : Rat) - wR * F cg 0 69 x ∧ (cosX X : Rat) - wR * F cg 0 69 x ≤ 10 := by
  have wp := wR_pos
  have x00 : 0 ≤ x := by grind
  have sq := square_err h hX
  have Yb := mulI_lt h h
  have xx := mul_le_one x00 x1 x00 x1
  obtain ⟨L, lb⟩ := less_err (o := 0) Yb sq xx 34 (U := 0) (u := 0) ⟨Int.le_refl _, by decide⟩ ⟨Rat.le_refl, by decide⟩ (by rw [z0]; constructor <;> grind)
  have Ll := lessI_lt (mulI X X) 0 34 (Int.le_refl 0) (by decide)
  have s69 := sum69 x 0
  rw [e_zero] at s69
  have vp := vers_pos x00 x1
  have c1 : (((0 : Nat) : Int)) = 0 := rfl
  rw [c1] at L
  unfold cosX
  generalize lessI (mulI X X) 0 34 0 = l at *
  have lp : 0 < l := by
    have x2 : 1 ≤ 2 ^ 46 * (x * x) := by
      have := mul_mono x0 x0 (by decide : (0 : Rat) ≤ 1) (by grind : (0 : Rat) ≤ 2 ^ 23 * x)
      grind
    have : ((0 : Int) : Rat) < (l : Rat) := by
      rw [z0]
      have e1 : wR = 2 ^ 50 * 2 ^ 206 := by unfold wR; grind
      rw [e1] at L
      have : (16 : Rat) ≤ 2 ^ 206 := by decide +kernel
      rw [s69] at vp
      generalize lessR (x * x) 0 34 0 = E at *
      have e2 : 1 ≤ 2 ^ 50 * E := by grind
      have := Rat.mul_le_mul_of_nonneg_left e2 (show (0 : Rat) ≤ 2 ^ 206 by decide +kernel)
      generalize (2 : Rat) ^ 206 = w at *
      generalize (l : Rat) = l' at *
      clear hX Ll Yb sq s69 xx lb h x2 vp
      grind
    exact Rat.intCast_lt_intCast.mp this
  have e : (0 - l) % W4 = W4 - l := by
    rw [← Int.add_emod_right, Int.emod_eq_of_lt (by omega) (by omega)]
    omega
  rw [e, s69, Rat.intCast_sub, W4_R]
  generalize lessR (x * x) 0 34 0 = E at *
  constructor <;> grind
theorem F69 {x : Rat} (x0 : 0 ≤ x) (x1 : x ≤ 1) (a M N : Nat) : -1 ≤ 2 ^ 65 * (F cg a (2 * 34 + M) x - F cg a (2 * 34 + N) x) ∧ 2 ^ 65 * (F cg a (2 * 34 + M) x - F cg a (2 * 34 + N) x) ≤ 1 := by
  have h := F_close x0 x1 34 a M N
  have k := e_68 x0 x1 (a + 2 * 34) (by omega)
  constructor <;> grind
theorem fin_err {V T T' S : Rat} (h1 : -10 ≤ V - wR * S ∧ V - wR * S ≤ 10) (h2 : -1 ≤ 2 ^ 65 * (S - T') ∧ 2 ^ 65 * (S - T') ≤ 1) (h3 : -(8 * (1 / 2 ^ 60) + 1 / 2 ^ 70) ≤ T' - T ∧ T' - T ≤ 8 * (1 / 2 ^ 60) + 1 / 2 ^ 70) :
    -600 ≤ V * (1 / 2 ^ 194) - 2 ^ 62 * T ∧ V * (1 / 2 ^ 194) - 2 ^ 62 * T ≤ 600 := by
  have e : wR = 2 ^ 194 * 2 ^ 62 := by unfold wR; grind
  rw [e] at h1
  have p : (1 : Rat) ≤ 2 ^ 194 := by decide +kernel
  have hinv : (2 : Rat) ^ 194 * (1 / 2 ^ 194) = 1 := by rw [Rat.mul_comm, Rat.div_mul_cancel (by grind)]
  generalize (2 : Rat) ^ 194 = w at *
  generalize 1 / w = r at *
  have r0 : 0 ≤ r := by
    have : w * 0 ≤ w * r := by rw [hinv]; grind
    exact le_cancel (by grind) this
  have r1 : r ≤ 1 := by
    have : r * 1 ≤ r * w := Rat.mul_le_mul_of_nonneg_left p r0
    grind
  have k1 := Rat.mul_le_mul_of_nonneg_right h1.1 r0
  have k2 := Rat.mul_le_mul_of_nonneg_right h1.2 r0
  have e2 : (V - w * 2 ^ 62 * S) * r = V * r - 2 ^ 62 * S := by
    rw [show (V - w * 2 ^ 62 * S) * r = V * r - 2 ^ 62 * S * (w * r) by grind, hinv]; grind
  rw [e2] at k1 k2
  generalize V * r = v at *
  clear h1 e hinv e2
  constructor <;> grind
theorem an_pos {n : Nat} (h : n ≠ 0) : 1 ≤ 2 ^ 22 * an n := by
  unfold an
  have : 1 * U ≤ n * U := Nat.mul_le_mul_right _ (by omega)
  have k : 2 ^ 62 ≤ 1 * U := by decide
  have := cast_le (Nat.le_trans k this)
  rw [Rat.natCast_pow, show ((2 : Nat) : Rat) = 2 from rfl] at this
  grind
theorem sin_fl {n : Nat} (h0 : n ≠ 0) (h1 : n ≠ 1800000) (h2 : n ≤ 2700000) : IsFl (sinX (radI n) / 107839786668602559178668060348078522694548577690162289924414440996864) (sn (an n)) := by
  have hb := radI_lt (n := (n : Int)) (by omega) (by omega)
  obtain ⟨x, hX, x0, x1, hx⟩ := part hb
  have nr := rad_near h2
  rw [hx] at nr
  have a0 := an_nonneg n
  have a1 := an_le h2
  have E := sinX_err hb hX x0 x1
  have C := F69 x0 x1 1 1 12
  have sx : sn x = F cg 1 (2 * 34 + 12) x := sn_eq x
  rw [← sx] at C
  have l := lip_any (f := sn) (fun x y a b c => sn_lip a b c) x0 a0 x1 (by grind) (d := 1 / 2 ^ 60) (by constructor <;> grind)
  have := isFl_near (q := 194) (far_sn h0 h1 h2) (fin_err E C l)
  have e : (2 ^ (32 + 194) : Int) = 107839786668602559178668060348078522694548577690162289924414440996864 := by decide +kernel
  rw [e] at this
  exact this
theorem cos_fl {n : Nat} (h0 : n ≠ 0) (h2 : n ≤ 2700000) : IsFl (cosX (radI n) / 107839786668602559178668060348078522694548577690162289924414440996864) (cs (an n)) := by
  have hb := radI_lt (n := (n : Int)) (by omega) (by omega)
  obtain ⟨x, hX, x0, x1, hx⟩ := part hb
  have nr := rad_near h2
  rw [hx] at nr
  have a0 := an_nonneg n
  have a1 := an_le h2
  have ap := an_pos h0
  have E := cosX_err hb hX (by grind) x1
  have C := F69 x0 x1 0 1 13
  have sx : cs x = F cg 0 (2 * 34 + 13) x := rfl
  rw [← sx] at C
  have l := lip_any (f := cs) (fun x y a b c => cs_lip a b c) x0 a0 x1 (by grind) (d := 1 / 2 ^ 60) (by constructor <;> grind)
  have := isFl_near (q := 194) (far_cs h0 h2) (fin_err E C l)
  have e : (2 ^ (32 + 194) : Int) = 107839786668602559178668060348078522694548577690162289924414440996864 := by decide +kernel
  rw [e] at this
  exact this
end Go.Proofs.YtjdcicjhpegphaaGreat

/- The reference's quick sine and its floor: what they answer. -/
namespace Go.Proofs.YtjdcicjhpegphaaGreat
open Go Go.Abs Go.RowKit Go.Sine
set_option linter.unusedVariables false
def B62 (a : Int) : Prop := 0 ≤ a ∧ a ≤ 4611686018427387904
def hiI (a b : Int) : Int := (hi a.toNat b.toNat : Nat)
def sHigh : FSpec := fun | [.int .i64 a, .int .i64 b] => some (B62 a ∧ B62 b, .int .i64 (hiI a b)) | _ => none
/-- The quick sine or cosine of an angle up to an eighth of a turn. -/
def qqI (r : Int) (c : Bool) : Int := bif c then qc r.toNat else qs r.toNat
def sQuick1 : FSpec := fun | [.int .i64 r, .bool c] => some (0 ≤ r ∧ r ≤ 2700000, .int .i64 (qqI r c)) | _ => none
structure Qk where
  k : Nat
  s : Int
  t : Nat
  d : Nat
/-- Between two rounds of the quick sine: what is summed, and what is still to come. -/
structure QkR (T : Int) (sq : Nat) (k : Nat) (s : Int) (t d : Nat) : Prop where
  le : k ≤ 6
  d0 : 1 ≤ d
  d1 : d + 4 * k ≤ 26
  t1 : t < prod d (2 * k)
  sum : s + qk (2 * k) t sq d = T
  s0 : 0 ≤ s ∧ s + t ≤ 4611686018427387904
def annQk (T : Int) (sq : Nat) : Ann where
  σ := Qk
  st := fun s x => ⟨lset (lset (lset (keepA s 50 [6]) 7 (.v (.int .i64 x.t))) 8 (.v (.int .i64 x.d))) 9 (.v (.int .i64 x.s)), s.hp⟩
  inv := fun s x => QkR T sq x.k x.s x.t x.d
  μ := fun _ x => x.k
def AQk (T : Int) (sq : Nat) : FuncId → List (Nat × LoopBy) := fun _ => [(0, .ann (annQk T sq))]
def once : FuncId → List (Nat × LoopBy) := fun _ => [(0, .times 1)]
/-- The quick sine of any angle. -/
def mI (n : Int) : Int := n % 21600000
def halfI (m : Int) : Int := if m % 5400000 > 2700000 then 5400000 - m % 5400000 else m % 5400000
def cosB (m : Int) : Bool := if m % 5400000 > 2700000 then !(decide (m / 5400000 % 2 = 1)) else decide (m / 5400000 % 2 = 1)
def quickI (n : Int) : Int := if 2 ≤ mI n / 5400000 then - qqI (halfI (mI n)) (cosB (mI n)) else qqI (halfI (mI n)) (cosB (mI n))
def sQuick : FSpec := fun | [.int .i64 n] => some (I64 n, .int .i64 (quickI n)) | _ => none
/-- The arc of the first quarter with the same sine, but for its sign, and the ends of this. -/
def southB (n : Int) : Bool := decide (10800000 < mI n)
def quartI (n : Int) : Int := if 10800000 < mI n then (if 5400000 < mI n - 10800000 then 21600000 - mI n else mI n - 10800000) else (if 5400000 < mI n then 10800000 - mI n else mI n)
def upI (m : Int) : Int := if exB m then sinP m else sinP m + 1
def loI (n : Int) : Int := if southB n then - upI (quartI n) else sinP (quartI n)
def hiE (n : Int) : Int := if southB n then - sinP (quartI n) else upI (quartI n)
def exN (n : Int) : Bool := exB (quartI n)
def sExact : FSpec := fun | [.int .i64 n] => some (I64 n, pair (num (if exN n then loI n else 0)) (.bool (exN n))) | _ => none
def no2 : FSpec := fun | [_, _] => some (False, undef) | _ => none
def no1 : FSpec := fun | [_] => some (False, undef) | _ => none
def sFloor6 : FSpec := fun | [.int .i64 n] => some (I64 n, pair (num (loI n)) (.bool (exN n))) | _ => none
def ΓQ1 : List (FuncId × CSpec) := []
def ΓQ2 : List (FuncId × CSpec) := []
def ΓQf : List (FuncId × CSpec) := []
end Go.Proofs.YtjdcicjhpegphaaGreat

/- The reference's quick sine and its floor: what they ask. -/
namespace Go.Proofs.YtjdcicjhpegphaaGreat
open Go Go.Abs Go.RowKit Go.Sine
set_option linter.unusedVariables false
set_option linter.unusedSimpArgs false
end Go.Proofs.YtjdcicjhpegphaaGreat

/- The reference's quick sine: contracts. -/
namespace Go.Proofs.YtjdcicjhpegphaaGreat
open Go Go.Abs Go.RowKit Go.Sine
set_option linter.unusedVariables false
set_option linter.unusedSimpArgs false
theorem and31 {a : Int} (h : B62 a) : andI .i64 a 2147483647 = a % 2147483648 := by
  obtain ⟨h0, h1⟩ := h
  obtain ⟨n, rfl⟩ := Int.eq_ofNat_of_zero_le h0
  have e1 : (BitVec.ofInt 64 (n : Int)).toNat = n := by rw [BitVec.toNat_ofInt]; omega
  have e2 : (BitVec.ofInt 64 2147483647).toNat = 2147483647 := by decide
  have : andI .i64 (n : Int) 2147483647 = IntKind.i64.wrap (((BitVec.ofInt 64 (n : Int) &&& BitVec.ofInt 64 2147483647).toNat : Nat) : Int) := rfl
  rw [this, BitVec.toNat_and, e1, e2]
  have e3 : n &&& 2147483647 = n % 2147483648 := Nat.and_two_pow_sub_one_eq_mod n 31
  rw [e3, wrap_in (by omega)]
  omega
theorem shr31 {a : Int} : a.fdiv (2 ^ 31) = a / 2147483648 := by
  rw [Int.fdiv_eq_ediv_of_nonneg _ (by decide)]; rfl
theorem hiI_eq {a b : Int} (ha : B62 a) (hb : B62 b) : hiI a b = a / 2147483648 * (b / 2147483648) + a / 2147483648 * (b % 2147483648) / 2147483648 + a % 2147483648 * (b / 2147483648) / 2147483648 := by
  obtain ⟨a0, a1⟩ := ha
  obtain ⟨b0, b1⟩ := hb
  obtain ⟨m, rfl⟩ := Int.eq_ofNat_of_zero_le a0
  obtain ⟨n, rfl⟩ := Int.eq_ofNat_of_zero_le b0
  unfold hiI hi
  simp
theorem hi_62 {a b : Int} (ha : B62 a) (hb : B62 b) : B62 (hiI a b) ∧ hiI a b ≤ a := by
  obtain ⟨a0, a1⟩ := ha
  obtain ⟨b0, b1⟩ := hb
  unfold hiI
  have h := hi_le a.toNat b.toNat (by omega)
  unfold B62
  omega
variable {Φ : World → Prop} (hst : ∀ w w', Φ w → Below w.heap.size w w' → Φ w')
include hst
omit hst in
theorem s_Q1 : Sound Tryz.prog Φ ΓQ1 := Sound.nil
omit hst in
theorem qk_more (sq : Nat) (hq : sq ≤ 2 ^ 62) : ∀ (m t d : Nat), t < prod d m → qk (m + 1) t sq d = qk m t sq d
  | 0, t, d, h => by
    have : t = 0 := by unfold prod at h; omega
    subst this
    unfold qk qk
    rfl
  | m + 1, t, d, h => by
    have h' : t < d * (d + 1) * prod (d + 2) m := h
    have e1 : qk (m + 1 + 1) t sq d = t - qk (m + 1) (hi t sq / (d * (d + 1))) sq (d + 2) := rfl
    have e2 : qk (m + 1) t sq d = t - qk m (hi t sq / (d * (d + 1))) sq (d + 2) := rfl
    rw [e1, e2, qk_more sq hq m _ (d + 2) (Nat.div_lt_of_lt_mul (Nat.lt_of_le_of_lt (hi_le t sq hq) h'))]
omit hst in
theorem qk_zero (sq : Nat) : ∀ (m d : Nat), qk m 0 sq d = 0
  | 0, _ => rfl
  | m + 1, d => by
    have e1 : qk (m + 1) 0 sq d = ((0 : Nat) : Int) - qk m (hi 0 sq / (d * (d + 1))) sq (d + 2) := rfl
    rw [e1, hi_zero, Nat.zero_div, qk_zero sq m]
    rfl
omit hst in
theorem hiI_cast (t : Nat) (sq : Nat) : hiI (t : Int) (sq : Int) = ((hi t sq : Nat) : Int) := by unfold hiI; simp
omit hst in
theorem quick_main {T : Int} {sq : Nat} (hq : sq ≤ 2 ^ 62) (K : Int → Prop) (hK : K T) : ∀ (s : Qk),
    QkR T sq s.1 s.2 s.3 s.4 →
    bcase (decide ((s.3 : Int) > 0))
    ((B62 (s.3 : Int) ∧ B62 (sq : Int)) ∧
    bcase (IntKind.i64.wrap ((s.4 : Int) * IntKind.i64.wrap ((s.4 : Int) + 1)) == 0) False
    ((B62 (IntKind.i64.wrap ((hiI (s.3 : Int) (sq : Int)).tdiv (IntKind.i64.wrap ((s.4 : Int) * IntKind.i64.wrap ((s.4 : Int) + 1))))) ∧ B62 (sq : Int)) ∧
    bcase (IntKind.i64.wrap (IntKind.i64.wrap ((s.4 : Int) + 2) * IntKind.i64.wrap ((s.4 : Int) + 3)) == 0) False
    (∃ (s_1 : Qk),
    ((sq : Int) = (sq : Int) ∧
    IntKind.i64.wrap ((hiI (IntKind.i64.wrap ((hiI (s.3 : Int) (sq : Int)).tdiv (IntKind.i64.wrap ((s.4 : Int) * IntKind.i64.wrap ((s.4 : Int) + 1))))) (sq : Int)).tdiv (IntKind.i64.wrap (IntKind.i64.wrap ((s.4 : Int) + 2) * IntKind.i64.wrap ((s.4 : Int) + 3)))) = (s_1.3 : Int) ∧
    IntKind.i64.wrap ((s.4 : Int) + 4) = (s_1.4 : Int) ∧
    IntKind.i64.wrap (IntKind.i64.wrap (s.2 + (s.3 : Int)) - IntKind.i64.wrap ((hiI (s.3 : Int) (sq : Int)).tdiv (IntKind.i64.wrap ((s.4 : Int) * IntKind.i64.wrap ((s.4 : Int) + 1))))) = s_1.2 ∧ True) ∧
    QkR T sq s_1.1 s_1.2 s_1.3 s_1.4 ∧ s_1.1 < s.1)))
    (K s.2) := by
  rintro ⟨k, s, t, d⟩ ⟨hk, d0, d1, t1, sum, s0, s1⟩
  dsimp only at *
  have bq : B62 (sq : Int) := by unfold B62; omega
  refine bcase_iff.mpr ⟨fun q => ?_, fun q => ?_⟩
  · have q := of_decide_eq_true q
    obtain ⟨j, rfl⟩ : ∃ j, k = j + 1 := ⟨k - 1, by
      rcases Nat.eq_zero_or_pos k with e | e
      · subst e
        have : t < 1 := t1
        omega
      · omega⟩
    have bt : B62 (t : Int) := by unfold B62; omega
    have m1 : d * (d + 1) ≤ 25 * 26 := Nat.mul_le_mul (by omega) (by omega)
    have m2 : (d + 2) * (d + 3) ≤ 27 * 28 := Nat.mul_le_mul (by omega) (by omega)
    have p1 : 0 < d * (d + 1) := Nat.mul_pos (by omega) (by omega)
    have p2 : 0 < (d + 2) * (d + 3) := Nat.mul_pos (by omega) (by omega)
    have w1 : IntKind.i64.wrap ((d : Int) * IntKind.i64.wrap ((d : Int) + 1)) = ((d * (d + 1) : Nat) : Int) := by
      rw [wrap_in (n := (d : Int) + 1) (by omega)]
      have : (d : Int) * (d + 1) = ((d * (d + 1) : Nat) : Int) := by simp
      rw [this, wrap_in (by omega)]
    have w2 : IntKind.i64.wrap (IntKind.i64.wrap ((d : Int) + 2) * IntKind.i64.wrap ((d : Int) + 3)) = (((d + 2) * (d + 3) : Nat) : Int) := by
      rw [wrap_in (n := (d : Int) + 2) (by omega), wrap_in (n := (d : Int) + 3) (by omega)]
      have : ((d : Int) + 2) * (d + 3) = (((d + 2) * (d + 3) : Nat) : Int) := by simp
      rw [this, wrap_in (by omega)]
    have h1 := hi_le t sq hq
    have h2 := hi_le (hi t sq / (d * (d + 1))) sq hq
    have l1 : hi t sq / (d * (d + 1)) ≤ hi t sq := Nat.div_le_self _ _
    have l2 : hi (hi t sq / (d * (d + 1))) sq / ((d + 2) * (d + 3)) ≤ hi (hi t sq / (d * (d + 1))) sq := Nat.div_le_self _ _
    have x1 : t < d * (d + 1) * ((d + 2) * (d + 3) * prod (d + 4) (2 * j)) := t1
    have x2 : hi t sq / (d * (d + 1)) < (d + 2) * (d + 3) * prod (d + 4) (2 * j) := Nat.div_lt_of_lt_mul (Nat.lt_of_le_of_lt h1 x1)
    have x3 : hi (hi t sq / (d * (d + 1))) sq / ((d + 2) * (d + 3)) < prod (d + 4) (2 * j) := Nat.div_lt_of_lt_mul (Nat.lt_of_le_of_lt h2 x2)
    have y : s + ((t : Int) - (((hi t sq / (d * (d + 1)) : Nat) : Int) - qk (2 * j) (hi (hi t sq / (d * (d + 1))) sq / ((d + 2) * (d + 3))) sq (d + 4))) = T := sum
    have c1 : (hiI (t : Int) (sq : Int)).tdiv ((d * (d + 1) : Nat) : Int) = ((hi t sq / (d * (d + 1)) : Nat) : Int) := by rw [hiI_cast, ← Int.ofNat_tdiv]
    have c2 : (hiI ((hi t sq / (d * (d + 1)) : Nat) : Int) (sq : Int)).tdiv (((d + 2) * (d + 3) : Nat) : Int) = ((hi (hi t sq / (d * (d + 1))) sq / ((d + 2) * (d + 3)) : Nat) : Int) := by rw [hiI_cast, ← Int.ofNat_tdiv]
    have f1 : hi t sq / (d * (d + 1)) ≤ t := Nat.le_trans l1 h1
    have f2 : hi (hi t sq / (d * (d + 1))) sq / ((d + 2) * (d + 3)) ≤ hi t sq / (d * (d + 1)) := Nat.le_trans l2 h2
    rw [w1, w2, c1]
    clear h1 h2 l1 l2 x1 x2 sum t1
    generalize hi t sq / (d * (d + 1)) = u1 at *
    rw [wrap_in (n := (u1 : Int)) (by omega), c2]
    generalize hi u1 sq / ((d + 2) * (d + 3)) = u2 at *
    rw [wrap_in (n := (u2 : Int)) (by omega)]
    refine ⟨⟨bt, bq⟩, bcase_iff.mpr ⟨fun z => absurd (eq_of_beq z) (by omega), fun _ => ⟨⟨by unfold B62; omega, bq⟩, bcase_iff.mpr ⟨fun z => absurd (eq_of_beq z) (by omega), fun _ => ⟨⟨j, s + t - u1, u2, d + 4⟩, ⟨rfl, rfl, ?_, ?_, trivial⟩, ⟨?_, ?_, ?_, ?_, ?_, ?_, ?_⟩, ?_⟩⟩⟩⟩⟩
    · rw [wrap_in (by omega)]; rfl
    · rw [wrap_in (n := s + (t : Int)) (by omega), wrap_in (by omega)]
    · dsimp only; omega
    · dsimp only; omega
    · dsimp only; omega
    · exact x3
    · dsimp only; omega
    · dsimp only; omega
    · dsimp only; omega
    · dsimp only; omega
  · have q := of_decide_eq_false q
    obtain rfl : t = 0 := by omega
    rw [qk_zero, Int.add_zero] at sum
    rw [sum]
    exact hK
end Go.Proofs.YtjdcicjhpegphaaGreat

/- The reference's floor of a sine: contracts. -/
namespace Go.Proofs.YtjdcicjhpegphaaGreat
open Go Go.Abs Go.RowKit Go.Sine
set_option linter.unusedVariables false
set_option linter.unusedSimpArgs false
theorem z_bound {z : Int} {T : Rat} (h : -208 ≤ (z : Rat) - 2 ^ 62 * T ∧ (z : Rat) - 2 ^ 62 * T ≤ 208) (t0 : 0 ≤ T) (t1 : T ≤ 1) : -300 ≤ z ∧ z ≤ 4611686018427388204 := by
  have c1 : ((-300 : Int) : Rat) = -300 := rfl
  have c2 : ((300 : Int) : Rat) = 300 := rfl
  have a : -300 ≤ z := Rat.intCast_le_intCast.mp (by rw [c1]; grind)
  have b : z ≤ 2 ^ 62 + 300 := Rat.intCast_le_intCast.mp (by rw [Rat.intCast_add, Rat.intCast_pow, c2, z2]; grind)
  have e : (2 : Int) ^ 62 + 300 = 4611686018427388204 := by decide
  rw [e] at b
  exact ⟨a, b⟩
theorem le1 {x : Rat} (h : 1000 * x ≤ 786) : x ≤ 1 := by grind
theorem pos2 {x : Rat} (h : 1 ≤ 2 * x) : 0 ≤ x := by grind
theorem sn_01 {r : Nat} (hr : r ≤ 2700000) : 0 ≤ sn (an r) ∧ sn (an r) ≤ 1 :=
  have s := sn_le (an_nonneg r) (le1 (an_le hr))
  ⟨s.1, Rat.le_trans s.2 (le1 (an_le hr))⟩
theorem cs_01 {r : Nat} (hr : r ≤ 2700000) : 0 ≤ cs (an r) ∧ cs (an r) ≤ 1 :=
  ⟨pos2 (cs_half (an_nonneg r) (le1 (an_le hr))), (cs_le (an_nonneg r) (le1 (an_le hr))).2⟩
theorem qq_bound {r : Int} (c : Bool) (h0 : 0 ≤ r) (h1 : r ≤ 2700000) : -300 ≤ qqI r c ∧ qqI r c ≤ 4611686018427388204 := by
  obtain ⟨r, rfl⟩ := Int.eq_ofNat_of_zero_le h0
  have hr : r ≤ 2700000 := by omega
  unfold qqI
  rw [Int.toNat_natCast]
  cases c
  · rw [cond_false]; exact z_bound (qs_err hr) (sn_01 hr).1 (sn_01 hr).2
  · rw [cond_true]; exact z_bound (qc_err hr) (cs_01 hr).1 (cs_01 hr).2
variable {Φ : World → Prop} (hst : ∀ w w', Φ w → Below w.heap.size w w' → Φ w')
include hst
omit hst in
theorem s_Q2 : Sound Tryz.prog Φ ΓQ2 := Sound.nil
omit hst in
theorem tmods {m : Int} (h : 0 ≤ m) (k : Int) (hk : 0 ≤ k) : m.tmod k = m % k ∧ m.tdiv k = m / k := ⟨Int.tmod_eq_emod_of_nonneg h, Int.tdiv_eq_ediv_of_nonneg h⟩
omit hst in
theorem quick_tail {m n : Int} (h0 : 0 ≤ m) (h1 : m < 21600000) (hn : mI n = m) :
    bcase (decide (m.tmod 5400000 > 2700000))
    ((0 ≤ IntKind.i64.wrap (5400000 - m.tmod 5400000) ∧ IntKind.i64.wrap (5400000 - m.tmod 5400000) ≤ 2700000) ∧
    bcase (decide (IntKind.i64.wrap (m.tdiv 5400000) ≥ 2)) (Value.int IntKind.i64 (IntKind.i64.wrap (0 - qqI (IntKind.i64.wrap (5400000 - m.tmod 5400000)) !(IntKind.i64.wrap (m.tdiv 5400000)).tmod 2 == 1)) = Value.int .i64 (quickI n))
    (Value.int IntKind.i64 (qqI (IntKind.i64.wrap (5400000 - m.tmod 5400000)) !(IntKind.i64.wrap (m.tdiv 5400000)).tmod 2 == 1) = Value.int .i64 (quickI n)))
    ((0 ≤ m.tmod 5400000 ∧ m.tmod 5400000 ≤ 2700000) ∧
    bcase (decide (IntKind.i64.wrap (m.tdiv 5400000) ≥ 2)) (Value.int IntKind.i64 (IntKind.i64.wrap (0 - qqI (m.tmod 5400000) ((IntKind.i64.wrap (m.tdiv 5400000)).tmod 2 == 1))) = Value.int .i64 (quickI n))
    (Value.int IntKind.i64 (qqI (m.tmod 5400000) ((IntKind.i64.wrap (m.tdiv 5400000)).tmod 2 == 1)) = Value.int .i64 (quickI n))) := by
  obtain ⟨e1, e2⟩ := tmods h0 5400000 (by decide)
  rw [e1, e2]
  have w1 : IntKind.i64.wrap (m / 5400000) = m / 5400000 := wrap_in (by omega)
  have w2 : IntKind.i64.wrap (5400000 - m % 5400000) = 5400000 - m % 5400000 := wrap_in (by omega)
  have e3 : (m / 5400000).tmod 2 = m / 5400000 % 2 := (tmods (by omega) 2 (by decide)).1
  rw [w1, w2, e3]
  have hc : (m / 5400000 % 2 == 1) = decide (m / 5400000 % 2 = 1) := by
    by_cases q : m / 5400000 % 2 = 1
    · rw [decide_eq_true q]; exact beq_iff_eq.mpr q
    · rw [decide_eq_false q]; exact beq_eq_false_iff_ne.mpr q
  rw [hc]
  unfold quickI halfI cosB
  rw [hn]
  refine bcase_iff.mpr ⟨fun q => ?_, fun q => ?_⟩
  · have q := of_decide_eq_true q
    rw [if_pos q, if_pos q]
    have b := qq_bound (r := 5400000 - m % 5400000) (!decide (m / 5400000 % 2 = 1)) (by omega) (by omega)
    refine ⟨⟨by omega, by omega⟩, bcase_iff.mpr ⟨fun q2 => ?_, fun q2 => ?_⟩⟩
    · have q2 := of_decide_eq_true q2
      rw [if_pos q2, wrap_in (by omega), Int.zero_sub]
    · have q2 := of_decide_eq_false q2
      rw [if_neg q2]
  · have q := of_decide_eq_false q
    rw [if_neg q, if_neg q]
    have b := qq_bound (r := m % 5400000) (decide (m / 5400000 % 2 = 1)) (by omega) (by omega)
    refine ⟨⟨by omega, by omega⟩, bcase_iff.mpr ⟨fun q2 => ?_, fun q2 => ?_⟩⟩
    · have q2 := of_decide_eq_true q2
      rw [if_pos q2, wrap_in (by omega), Int.zero_sub]
    · have q2 := of_decide_eq_false q2
      rw [if_neg q2]
omit hst in
/-- What is left of a division that goes to zero. -/
theorem tmod_cases (n : Int) : (n.tmod 21600000 < 0 ∧ n.tmod 21600000 + 21600000 = mI n) ∨ (¬ n.tmod 21600000 < 0 ∧ n.tmod 21600000 = mI n) := by
  unfold mI
  rcases Int.le_total 0 n with h | h
  · right
    rw [Int.tmod_eq_emod_of_nonneg h]
    omega
  · have : n.tmod 21600000 = - ((-n) % 21600000) := by
      rw [← Int.tmod_eq_emod_of_nonneg (by omega), Int.neg_tmod, Int.neg_neg]
    rw [this]
    omega
/-! The floor. -/
omit hst in
theorem near45 : (-20 ≤ qc 2700000 - qs 2700000 ∧ qc 2700000 - qs 2700000 ≤ 20) := by decide +kernel
omit hst in
/-- The sine of a part of the first quarter. -/
def tQ (p : Nat) : Rat := if 2 * p ≤ 5400000 then sn (an p) else cs (an (5400000 - p))
omit hst in
theorem exB_no {p : Nat} (h : exB (p : Int) = false) : p ≠ 0 ∧ p ≠ 1800000 ∧ p ≠ 5400000 := by
  unfold exB at h
  simp only [Bool.or_eq_false_iff, beq_eq_false_iff_ne] at h
  omega
omit hst in
theorem far_tQ {p : Nat} (h : exB (p : Int) = false) (hp : p ≤ 5400000) : Far (tQ p) ∧ IsFl (sinP p) (tQ p) := by
  obtain ⟨n0, n1, n2⟩ := exB_no h
  unfold tQ sinP
  rw [if_neg (show ¬ (p : Int) = 0 by omega), if_neg (show ¬ (p : Int) = 1800000 by omega), if_neg (show ¬ (p : Int) = 5400000 by omega)]
  by_cases q : 2 * p ≤ 5400000
  · rw [if_pos q, if_pos (by omega)]
    exact ⟨far_sn n0 n1 (by omega), sin_fl n0 n1 (by omega)⟩
  · rw [if_neg q, if_neg (by omega)]
    have e : (5400000 : Int) - p = ((5400000 - p : Nat) : Int) := by omega
    rw [e]
    exact ⟨far_cs (by omega) (by omega), cos_fl (by omega) (by omega)⟩
omit hst in
theorem near_a {z : Int} {T : Rat} (h : -208 ≤ (z : Rat) - 2 ^ 62 * T ∧ (z : Rat) - 2 ^ 62 * T ≤ 208) : -300 ≤ (z : Rat) - 2 ^ 62 * T ∧ (z : Rat) - 2 ^ 62 * T ≤ 300 := by
  constructor <;> grind
omit hst in
theorem near_b {u v : Int} {T : Rat} (h : -208 ≤ (v : Rat) - 2 ^ 62 * T ∧ (v : Rat) - 2 ^ 62 * T ≤ 208) (n : -20 ≤ u - v ∧ u - v ≤ 20) : -300 ≤ (u : Rat) - 2 ^ 62 * T ∧ (u : Rat) - 2 ^ 62 * T ≤ 300 := by
  have n1 := i_le n.1
  have n2 := i_le n.2
  rw [Rat.intCast_sub] at n1 n2
  have c1 : ((-20 : Int) : Rat) = -20 := rfl
  have c2 : ((20 : Int) : Rat) = 20 := rfl
  rw [c1] at n1
  rw [c2] at n2
  clear n
  constructor <;> grind
omit hst in
theorem qq_near1 {p : Nat} (h : p ≤ 2700000) : -300 ≤ (qqI p false : Rat) - 2 ^ 62 * tQ p ∧ (qqI p false : Rat) - 2 ^ 62 * tQ p ≤ 300 := by
  unfold qqI tQ
  rw [if_pos (by omega), Int.toNat_natCast, cond_false]
  exact near_a (qs_err h)
omit hst in
theorem qq_near2 {p : Nat} (h0 : 2700000 ≤ p) (h1 : p ≤ 5400000) : -300 ≤ (qqI ((5400000 - p : Nat) : Int) true : Rat) - 2 ^ 62 * tQ p ∧ (qqI ((5400000 - p : Nat) : Int) true : Rat) - 2 ^ 62 * tQ p ≤ 300 := by
  unfold qqI tQ
  rw [Int.toNat_natCast, cond_true]
  by_cases e : p = 2700000
  · subst e
    rw [if_pos (by decide), show (5400000 - 2700000 : Nat) = 2700000 from rfl]
    exact near_b (qs_err (r := 2700000) (Nat.le_refl _)) near45
  · rw [if_neg (by omega)]
    exact near_a (qc_err (r := 5400000 - p) (by omega))
omit hst in
theorem isFl0 {V : Int} {T : Rat} (hF : Far T) (hV : -600 ≤ (V : Rat) - 2 ^ 62 * T ∧ (V : Rat) - 2 ^ 62 * T ≤ 600) : IsFl (V / 4294967296) T := by
  have := isFl_near (q := 0) (V := V) hF (by
    have : (1 : Rat) / 2 ^ 0 = 1 := by decide +kernel
    rw [this]
    constructor <;> grind)
  have e : (2 ^ (32 + 0) : Int) = 4294967296 := by decide
  rw [e] at this
  exact this
omit hst in
theorem far_neg {T : Rat} (h : Far T) : Far (-T) := by
  intro m
  have k := h (-m)
  rw [Rat.intCast_neg] at k
  rcases k with k | k
  · right; grind
  · left; grind
omit hst in
theorem isFl_neg {m : Int} {T : Rat} (hF : Far T) (h : IsFl m T) : IsFl (-(m + 1)) (-T) := by
  have k1 := hF m
  obtain ⟨h1, h2⟩ := h
  have e : ((-(m + 1) : Int) : Rat) = -((m : Rat) + 1) := by rw [Rat.intCast_neg, Rat.intCast_add, z1]
  unfold IsFl
  rw [e]
  constructor <;> grind
omit hst in
/-- All three floors of a quick value are the floor. -/
theorem floors {v m : Int} {T : Rat} (hF : Far T) (hm : IsFl m T) (hv : -300 ≤ (v : Rat) - 2 ^ 62 * T ∧ (v : Rat) - 2 ^ 62 * T ≤ 300) : (v - 256) / 4294967296 = m ∧ v / 4294967296 = m ∧ (v + 256) / 4294967296 = m := by
  have c : ((256 : Int) : Rat) = 256 := rfl
  refine ⟨isFl_one (isFl0 hF ?_) hm, isFl_one (isFl0 hF ?_) hm, isFl_one (isFl0 hF ?_) hm⟩
  · rw [Rat.intCast_sub, c]; constructor <;> grind
  · constructor <;> grind
  · rw [Rat.intCast_add, c]; constructor <;> grind
omit hst in
theorem quart_range (n : Int) : 0 ≤ quartI n ∧ quartI n ≤ 5400000 := by
  have m0 : 0 ≤ mI n ∧ mI n < 21600000 := by unfold mI; omega
  unfold quartI
  split <;> split <;> omega
omit hst in
theorem quick_floor {n : Int} (h : exN n = false) : (quickI n - 256) / 4294967296 = loI n ∧ quickI n / 4294967296 = loI n ∧ (quickI n + 256) / 4294967296 = loI n := by
  unfold exN at h
  obtain ⟨p0, p1⟩ := quart_range n
  have m0 : 0 ≤ mI n ∧ mI n < 21600000 := by unfold mI; omega
  obtain ⟨p, hp⟩ := Int.eq_ofNat_of_zero_le p0
  rw [hp] at h
  have hp5 : p ≤ 5400000 := by omega
  obtain ⟨hF, hI⟩ := far_tQ h hp5
  obtain ⟨x0, x1, x2⟩ := exB_no h
  unfold loI southB upI
  rw [hp, h]
  -- the quick value
  have near : ∀ r c, ((r : Int) = p ∧ c = false ∧ p ≤ 2700000) ∨ (r = ((5400000 - p : Nat) : Int) ∧ c = true ∧ 2700000 ≤ p) → -300 ≤ (qqI r c : Rat) - 2 ^ 62 * tQ p ∧ (qqI r c : Rat) - 2 ^ 62 * tQ p ≤ 300 := by
    rintro r c (⟨rfl, rfl, e⟩ | ⟨rfl, rfl, e⟩)
    · exact qq_near1 e
    · exact qq_near2 e hp5
  have key : ((halfI (mI n) : Int) = p ∧ cosB (mI n) = false ∧ p ≤ 2700000) ∨ (halfI (mI n) = ((5400000 - p : Nat) : Int) ∧ cosB (mI n) = true ∧ 2700000 ≤ p) := by
    unfold quartI at hp
    unfold halfI cosB
    generalize mI n = m at *
    by_cases a : m % 5400000 > 2700000
    · rw [if_pos a, if_pos a]
      by_cases b : m / 5400000 % 2 = 1
      · left
        rw [decide_eq_true b]
        refine ⟨?_, rfl, ?_⟩ <;> split at hp <;> split at hp <;> omega
      · right
        rw [decide_eq_false b]
        refine ⟨?_, rfl, ?_⟩ <;> split at hp <;> split at hp <;> omega
    · rw [if_neg a, if_neg a]
      by_cases b : m / 5400000 % 2 = 1
      · right
        rw [decide_eq_true b]
        refine ⟨?_, rfl, ?_⟩ <;> split at hp <;> split at hp <;> omega
      · left
        rw [decide_eq_false b]
        refine ⟨?_, rfl, ?_⟩ <;> split at hp <;> split at hp <;> omega
  have N := near _ _ key
  unfold quickI
  by_cases s : 10800000 < mI n
  · rw [if_pos (show 2 ≤ mI n / 5400000 by omega), decide_eq_true s, if_pos rfl, if_neg (by decide)]
    refine floors (far_neg hF) (isFl_neg hF hI) ?_
    rw [Rat.intCast_neg]
    constructor <;> grind
  · have ne : mI n ≠ 10800000 := fun e => by
      unfold quartI at hp
      rw [e] at hp
      simp at hp
      omega
    rw [if_neg (show ¬ 2 ≤ mI n / 5400000 by omega), decide_eq_false s, if_neg (by decide)]
    exact floors hF hI N
end Go.Proofs.YtjdcicjhpegphaaGreat

/- The reference's floor of a sine, its ends, and the enclosures: contracts. -/
namespace Go.Proofs.YtjdcicjhpegphaaGreat
open Go Go.Abs Go.RowKit Go.Sine
set_option linter.unusedVariables false
set_option linter.unusedSimpArgs false
theorem exact_tail {m : Int} (h0 : 0 ≤ m) (h1 : m < 21600000) (U : Value) (hU : U = pair (num (if exN m then loI m else 0)) (.bool (exN m))) :
    (bcase (m.tmod 1800000 != 0) (Value.tuple #[Value.int IntKind.i64 0, Value.bool false] = U)
 (bcase ((IntKind.i64.wrap (m.tdiv 1800000)).tmod 3 == 0)
 (bcase (inB (IntKind.i64.wrap ((IntKind.i64.wrap (m.tdiv 1800000)).tdiv 3)) 4)
 (bcase (IntKind.i64.wrap ((IntKind.i64.wrap (m.tdiv 1800000)).tdiv 3) == (↑3 : Int)) (Value.tuple #[Value.int IntKind.i64 (IntKind.i64.wrap (-1 * 1073741824)), Value.bool true] = U)
 (bcase (IntKind.i64.wrap ((IntKind.i64.wrap (m.tdiv 1800000)).tdiv 3) == (↑2 : Int)) (Value.tuple #[Value.int IntKind.i64 (IntKind.i64.wrap (0 * 1073741824)), Value.bool true] = U)
 (bcase (IntKind.i64.wrap ((IntKind.i64.wrap (m.tdiv 1800000)).tdiv 3) == (↑1 : Int)) (Value.tuple #[Value.int IntKind.i64 (IntKind.i64.wrap (1 * 1073741824)), Value.bool true] = U)
 (bcase (IntKind.i64.wrap ((IntKind.i64.wrap (m.tdiv 1800000)).tdiv 3) == (↑0 : Int)) (Value.tuple #[Value.int IntKind.i64 (IntKind.i64.wrap (0 * 1073741824)), Value.bool true] = U) False))))
 False)
 (bcase ((IntKind.i64.wrap (m.tdiv 1800000)).tmod 6 == 2) (Value.tuple #[Value.int IntKind.i64 0, Value.bool false] = U)
 (bcase ((IntKind.i64.wrap (m.tdiv 1800000)).tmod 6 == 4) (Value.tuple #[Value.int IntKind.i64 0, Value.bool false] = U)
 (bcase (inB (IntKind.i64.wrap (m.tdiv 1800000)) 12)
 (bcase (IntKind.i64.wrap (m.tdiv 1800000) == (↑11 : Int)) (Value.tuple #[Value.int IntKind.i64 (IntKind.i64.wrap (-1 * 536870912)), Value.bool true] = U)
 (bcase (IntKind.i64.wrap (m.tdiv 1800000) == (↑10 : Int)) (Value.tuple #[Value.int IntKind.i64 (IntKind.i64.wrap (-2 * 536870912)), Value.bool true] = U)
 (bcase (IntKind.i64.wrap (m.tdiv 1800000) == (↑9 : Int)) (Value.tuple #[Value.int IntKind.i64 (IntKind.i64.wrap (-2 * 536870912)), Value.bool true] = U)
 (bcase (IntKind.i64.wrap (m.tdiv 1800000) == (↑8 : Int)) (Value.tuple #[Value.int IntKind.i64 (IntKind.i64.wrap (-2 * 536870912)), Value.bool true] = U)
 (bcase (IntKind.i64.wrap (m.tdiv 1800000) == (↑7 : Int)) (Value.tuple #[Value.int IntKind.i64 (IntKind.i64.wrap (-1 * 536870912)), Value.bool true] = U)
 (bcase (IntKind.i64.wrap (m.tdiv 1800000) == (↑6 : Int)) (Value.tuple #[Value.int IntKind.i64 (IntKind.i64.wrap (0 * 536870912)), Value.bool true] = U)
 (bcase (IntKind.i64.wrap (m.tdiv 1800000) == (↑5 : Int)) (Value.tuple #[Value.int IntKind.i64 (IntKind.i64.wrap (1 * 536870912)), Value.bool true] = U)
 (bcase (IntKind.i64.wrap (m.tdiv 1800000) == (↑4 : Int)) (Value.tuple #[Value.int IntKind.i64 (IntKind.i64.wrap (2 * 536870912)), Value.bool true] = U)
 (bcase (IntKind.i64.wrap (m.tdiv 1800000) == (↑3 : Int)) (Value.tuple #[Value.int IntKind.i64 (IntKind.i64.wrap (2 * 536870912)), Value.bool true] = U)
 (bcase (IntKind.i64.wrap (m.tdiv 1800000) == (↑2 : Int)) (Value.tuple #[Value.int IntKind.i64 (IntKind.i64.wrap (2 * 536870912)), Value.bool true] = U)
 (bcase (IntKind.i64.wrap (m.tdiv 1800000) == (↑1 : Int)) (Value.tuple #[Value.int IntKind.i64 (IntKind.i64.wrap (1 * 536870912)), Value.bool true] = U) (bcase (IntKind.i64.wrap (m.tdiv 1800000) == (↑0 : Int)) (Value.tuple #[Value.int IntKind.i64 (IntKind.i64.wrap (0 * 536870912)), Value.bool true] = U) False))))))))))))
 False))))) := by
  by_cases hm : m % 1800000 = 0
  · obtain ⟨k, hk⟩ : ∃ k, m = 1800000 * k := ⟨m / 1800000, by omega⟩
    have hk0 : 0 ≤ k := by omega
    have hk1 : k < 12 := by omega
    have hc : k = 0 ∨ k = 1 ∨ k = 2 ∨ k = 3 ∨ k = 4 ∨ k = 5 ∨ k = 6 ∨ k = 7 ∨ k = 8 ∨ k = 9 ∨ k = 10 ∨ k = 11 := by omega
    rcases hc with rfl | rfl | rfl | rfl | rfl | rfl | rfl | rfl | rfl | rfl | rfl | rfl <;> subst hk <;> rw [hU] <;> exact rfl
  · have e : exN m = false := by
      unfold exN exB quartI mI
      rw [Int.emod_eq_of_lt h0 h1]
      simp only [Bool.or_eq_false_iff, beq_eq_false_iff_ne]
      split <;> split <;> omega
    rw [e] at hU
    refine bcase_iff.mpr ⟨fun _ => hU.symm, fun q => ?_⟩
    have q := eq_of_beq (by simpa using q : (m.tmod 1800000 == 0) = true)
    rw [Int.tmod_eq_emod_of_nonneg h0] at q
    exact absurd q hm
theorem exN_mI (n : Int) : exN (mI n) = exN n ∧ loI (mI n) = loI n := by
  have e : mI (mI n) = mI n := by unfold mI; omega
  unfold exN loI southB quartI
  rw [e]
  exact ⟨rfl, rfl⟩
variable {Φ : World → Prop} (hst : ∀ w w', Φ w → Below w.heap.size w w' → Φ w')
include hst
omit hst in
theorem s_Qf : Sound Tryz.prog Φ ΓQf := Sound.nil
omit hst in
theorem quickI_bound (n : Int) : -4611686018427388300 ≤ quickI n ∧ quickI n ≤ 4611686018427388300 := by
  have m0 : 0 ≤ mI n ∧ mI n < 21600000 := by unfold mI; omega
  have h : 0 ≤ halfI (mI n) ∧ halfI (mI n) ≤ 2700000 := by unfold halfI; split <;> omega
  have b := qq_bound (cosB (mI n)) h.1 h.2
  unfold quickI
  split <;> omega
end Go.Proofs.YtjdcicjhpegphaaGreat

/- The sine over an arc, by the program and by the reference: what they answer. -/
namespace Go.Proofs.YtjdcicjhpegphaaGreat
open Go Go.Abs Go.RowKit Go.Sine
set_option linter.unusedVariables false
def Q41 (n : Int) : Prop := -2199023255552 ≤ n ∧ n ≤ 2199023255552
/-- An arc has an angle, but for whole turns. -/
def hasB (lo hi n : Int) : Bool := decide ((n - lo) % 21600000 ≤ hi - lo)
def encL (lo hi : Int) : Int := if hasB lo hi 16200000 then -1073741824 else min (loI lo) (loI hi)
def encH (lo hi : Int) : Int := if hasB lo hi 5400000 then 1073741824 else max (hiE lo) (hiE hi)
/-- A valid arc. -/
def ArcV (lo hi : Int) : Prop := -1099511627776 ≤ lo ∧ lo ≤ hi ∧ hi ≤ 1099511627776
instance (lo hi : Int) : Decidable (ArcV lo hi) := by unfold ArcV; infer_instance
def sEnds : FSpec := fun | [.int .i64 n] => some (Q41 n, pair (num (loI n)) (num (hiE n))) | _ => none
def sSinP : FSpec := fun | [.int .i64 n] => some (0 ≤ n ∧ n ≤ 5400000, pair (num (sinP n)) (.bool (exB n))) | _ => none
def sTurned : FSpec := fun | [.int .i64 n] => some (I64 n, num (mI n)) | _ => none
def sHas : FSpec := fun | [.agg ⟨[.int .i64 a, .int .i64 b]⟩, .int .i64 n] => some (Q41 a ∧ Q41 b ∧ Q41 n ∧ a ≤ b, .bool (hasB a b n)) | _ => none
def sEnc : FSpec := fun | [.agg ⟨[.int .i64 a, .int .i64 b]⟩] => some (Q41 a ∧ Q41 b ∧ a ≤ b, wid (encL a b) (encH a b)) | _ => none
def sFurther : FSpec := fun | [.agg ⟨[.int .i64 a, .int .i64 b]⟩] => some (Q41 a ∧ Q41 b, wid (a + 5400000) (b + 5400000)) | _ => none
def sArcV : FSpec := fun | [.agg ⟨[.int .i64 a, .int .i64 b]⟩] => some (True, .bool (decide (ArcV a b))) | _ => none
def ΓE1 : List (FuncId × CSpec) := []
def ΓE2 : List (FuncId × CSpec) := []
def ΓE3 : List (FuncId × CSpec) := []
def ΓE4 : List (FuncId × CSpec) := [(164, .v sTurned), (165, .v sSinP)]
def ΓE5 : List (FuncId × CSpec) := [(148, .v sEnds), (149, .v sHas)]
def ΓE6 : List (FuncId × CSpec) := [(124, .v sArcV), (125, .v sEnc), (126, .v sFurther)]
end Go.Proofs.YtjdcicjhpegphaaGreat

/- The sine over an arc, by the program and by the reference: what they ask. -/
namespace Go.Proofs.YtjdcicjhpegphaaGreat
open Go Go.Abs Go.RowKit Go.Sine
set_option linter.unusedVariables false
set_option linter.unusedSimpArgs false
theorem vc_trturned (n : Int) (K : Value → Prop) : callsX Tryz.prog ([]) (noAnn) 164 [.int .i64 n] K = (
 bcase (decide (n.tmod 21600000 < 0)) (K (Value.int IntKind.i64 (IntKind.i64.wrap (n.tmod 21600000 + 21600000)))) (K (Value.int IntKind.i64 (n.tmod 21600000)))) := by kernel_rfl
theorem vc_trbounds (n : Int) (K : Value → Prop) : callsX Tryz.prog (ΓE4) (noAnn) 148 [.int .i64 n] K = (
 I64 n ∧
 bcase (decide (mI n > 10800000))
 (bcase (decide (IntKind.i64.wrap (mI n - 10800000) > 5400000))
 ((0 ≤ IntKind.i64.wrap (10800000 - IntKind.i64.wrap (mI n - 10800000)) ∧ IntKind.i64.wrap (10800000 - IntKind.i64.wrap (mI n - 10800000)) ≤ 5400000) ∧
 bcase (!exB (IntKind.i64.wrap (10800000 - IntKind.i64.wrap (mI n - 10800000))))
 (bcase (decide (mI n > 10800000)) (K (Value.tuple #[Value.int IntKind.i64 (IntKind.i64.wrap (0 - IntKind.i64.wrap (sinP (IntKind.i64.wrap (10800000 - IntKind.i64.wrap (mI n - 10800000))) + 1))), Value.int IntKind.i64 (IntKind.i64.wrap (0 - sinP (IntKind.i64.wrap (10800000 - IntKind.i64.wrap (mI n - 10800000)))))]))
 (K (Value.tuple #[Value.int IntKind.i64 (sinP (IntKind.i64.wrap (10800000 - IntKind.i64.wrap (mI n - 10800000)))), Value.int IntKind.i64 (IntKind.i64.wrap (sinP (IntKind.i64.wrap (10800000 - IntKind.i64.wrap (mI n - 10800000))) + 1))])))
 (bcase (decide (mI n > 10800000)) (K (Value.tuple #[Value.int IntKind.i64 (IntKind.i64.wrap (0 - sinP (IntKind.i64.wrap (10800000 - IntKind.i64.wrap (mI n - 10800000))))), Value.int IntKind.i64 (IntKind.i64.wrap (0 - sinP (IntKind.i64.wrap (10800000 - IntKind.i64.wrap (mI n - 10800000)))))]))
 (K (Value.tuple #[Value.int IntKind.i64 (sinP (IntKind.i64.wrap (10800000 - IntKind.i64.wrap (mI n - 10800000)))), Value.int IntKind.i64 (sinP (IntKind.i64.wrap (10800000 - IntKind.i64.wrap (mI n - 10800000))))]))))
 ((0 ≤ IntKind.i64.wrap (mI n - 10800000) ∧ IntKind.i64.wrap (mI n - 10800000) ≤ 5400000) ∧
 bcase (!exB (IntKind.i64.wrap (mI n - 10800000)))
 (bcase (decide (mI n > 10800000)) (K (Value.tuple #[Value.int IntKind.i64 (IntKind.i64.wrap (0 - IntKind.i64.wrap (sinP (IntKind.i64.wrap (mI n - 10800000)) + 1))), Value.int IntKind.i64 (IntKind.i64.wrap (0 - sinP (IntKind.i64.wrap (mI n - 10800000))))]))
 (K (Value.tuple #[Value.int IntKind.i64 (sinP (IntKind.i64.wrap (mI n - 10800000))), Value.int IntKind.i64 (IntKind.i64.wrap (sinP (IntKind.i64.wrap (mI n - 10800000)) + 1))])))
 (bcase (decide (mI n > 10800000)) (K (Value.tuple #[Value.int IntKind.i64 (IntKind.i64.wrap (0 - sinP (IntKind.i64.wrap (mI n - 10800000)))), Value.int IntKind.i64 (IntKind.i64.wrap (0 - sinP (IntKind.i64.wrap (mI n - 10800000))))])) (K (Value.tuple #[Value.int IntKind.i64 (sinP (IntKind.i64.wrap (mI n - 10800000))), Value.int IntKind.i64 (sinP (IntKind.i64.wrap (mI n - 10800000)))])))))
 (bcase (decide (mI n > 5400000))
 ((0 ≤ IntKind.i64.wrap (10800000 - mI n) ∧ IntKind.i64.wrap (10800000 - mI n) ≤ 5400000) ∧
 bcase (!exB (IntKind.i64.wrap (10800000 - mI n)))
 (bcase (decide (mI n > 10800000)) (K (Value.tuple #[Value.int IntKind.i64 (IntKind.i64.wrap (0 - IntKind.i64.wrap (sinP (IntKind.i64.wrap (10800000 - mI n)) + 1))), Value.int IntKind.i64 (IntKind.i64.wrap (0 - sinP (IntKind.i64.wrap (10800000 - mI n))))]))
 (K (Value.tuple #[Value.int IntKind.i64 (sinP (IntKind.i64.wrap (10800000 - mI n))), Value.int IntKind.i64 (IntKind.i64.wrap (sinP (IntKind.i64.wrap (10800000 - mI n)) + 1))])))
 (bcase (decide (mI n > 10800000)) (K (Value.tuple #[Value.int IntKind.i64 (IntKind.i64.wrap (0 - sinP (IntKind.i64.wrap (10800000 - mI n)))), Value.int IntKind.i64 (IntKind.i64.wrap (0 - sinP (IntKind.i64.wrap (10800000 - mI n))))])) (K (Value.tuple #[Value.int IntKind.i64 (sinP (IntKind.i64.wrap (10800000 - mI n))), Value.int IntKind.i64 (sinP (IntKind.i64.wrap (10800000 - mI n)))]))))
 ((0 ≤ mI n ∧ mI n ≤ 5400000) ∧
 bcase (!exB (mI n)) (bcase (decide (mI n > 10800000)) (K (Value.tuple #[Value.int IntKind.i64 (IntKind.i64.wrap (0 - IntKind.i64.wrap (sinP (mI n) + 1))), Value.int IntKind.i64 (IntKind.i64.wrap (0 - sinP (mI n)))])) (K (Value.tuple #[Value.int IntKind.i64 (sinP (mI n)), Value.int IntKind.i64 (IntKind.i64.wrap (sinP (mI n) + 1))])))
 (bcase (decide (mI n > 10800000)) (K (Value.tuple #[Value.int IntKind.i64 (IntKind.i64.wrap (0 - sinP (mI n))), Value.int IntKind.i64 (IntKind.i64.wrap (0 - sinP (mI n)))])) (K (Value.tuple #[Value.int IntKind.i64 (sinP (mI n)), Value.int IntKind.i64 (sinP (mI n))])))))) := by kernel_rfl
theorem vc_trvalid (a b : Int) (K : Value → Prop) : callsX Tryz.prog ([]) (noAnn) 124 [wid a b] K = (
 bcase (decide (a ≥ -1099511627776)) (bcase (decide (a ≤ b)) (K (Value.bool (decide (b ≤ 1099511627776)))) (K (Value.bool false))) (K (Value.bool false))) := by kernel_rfl
theorem vc_trmeets (a b n : Int) (K : Value → Prop) : callsX Tryz.prog (ΓE4) (noAnn) 149 [wid a b, .int .i64 n] K = (
 I64 (IntKind.i64.wrap (n - a)) ∧ K (Value.bool (decide (mI (IntKind.i64.wrap (n - a)) ≤ IntKind.i64.wrap (b - a))))) := by kernel_rfl
theorem vc_trenc (a b : Int) (K : Value → Prop) : callsX Tryz.prog (ΓE5) (noAnn) 125 [wid a b] K = (
 Q41 a ∧
 Q41 b ∧
 (Q41 a ∧ Q41 b ∧ Q41 5400000 ∧ a ≤ b) ∧
 bcase (hasB a b 5400000) ((Q41 a ∧ Q41 b ∧ Q41 16200000 ∧ a ≤ b) ∧ bcase (hasB a b 16200000) (K (Value.agg #[Value.int IntKind.i64 (-1073741824), Value.int IntKind.i64 1073741824])) (K (Value.agg #[Value.int IntKind.i64 (if loI b < loI a then loI b else loI a), Value.int IntKind.i64 1073741824])))
 ((Q41 a ∧ Q41 b ∧ Q41 16200000 ∧ a ≤ b) ∧ bcase (hasB a b 16200000) (K (Value.agg #[Value.int IntKind.i64 (-1073741824), Value.int IntKind.i64 (if hiE b > hiE a then hiE b else hiE a)])) (K (Value.agg #[Value.int IntKind.i64 (if loI b < loI a then loI b else loI a), Value.int IntKind.i64 (if hiE b > hiE a then hiE b else hiE a)])))) := by kernel_rfl
theorem vc_trfurther (a b : Int) (K : Value → Prop) : callsX Tryz.prog ([]) (noAnn) 126 [wid a b] K = (
 K (Value.agg #[Value.int IntKind.i64 (IntKind.i64.wrap (a + 5400000)), Value.int IntKind.i64 (IntKind.i64.wrap (b + 5400000))])) := by kernel_rfl
theorem vc_trSin (a b : Int) (K : Value → Prop) : callsX Tryz.prog (ΓE6) (noAnn) 85 [wid a b] K = (
 True ∧ bcase (!decide (ArcV a b)) (K (Value.tuple #[Value.agg #[Value.int IntKind.i64 0, Value.int IntKind.i64 0], Value.int IntKind.i64 1])) ((Q41 a ∧ Q41 b ∧ a ≤ b) ∧ K (Value.tuple #[Value.agg #[Value.int IntKind.i64 (encL a b), Value.int IntKind.i64 (encH a b)], Value.int IntKind.i64 0]))) := by kernel_rfl
theorem vc_trCos (a b : Int) (K : Value → Prop) : callsX Tryz.prog (ΓE6) (noAnn) 94 [wid a b] K = (
 True ∧
 bcase (!decide (ArcV a b)) (K (Value.tuple #[Value.agg #[Value.int IntKind.i64 0, Value.int IntKind.i64 0], Value.int IntKind.i64 1])) ((Q41 a ∧ Q41 b) ∧ (Q41 (a + 5400000) ∧ Q41 (b + 5400000) ∧ a + 5400000 ≤ b + 5400000) ∧ K (Value.tuple #[Value.agg #[Value.int IntKind.i64 (encL (a + 5400000) (b + 5400000)), Value.int IntKind.i64 (encH (a + 5400000) (b + 5400000))], Value.int IntKind.i64 0]))) := by kernel_rfl
end Go.Proofs.YtjdcicjhpegphaaGreat

/- The sine over an arc, by the program and by the reference: contracts. -/
namespace Go.Proofs.YtjdcicjhpegphaaGreat
open Go Go.Abs Go.RowKit Go.Sine
set_option linter.unusedVariables false
set_option linter.unusedSimpArgs false
theorem tQ_01 {p : Nat} (h : p ≤ 5400000) : 0 ≤ tQ p ∧ tQ p ≤ 1 := by
  unfold tQ
  split
  · exact sn_01 (by omega)
  · exact cs_01 (by omega)
theorem fl_range {m : Int} {T : Rat} (hF : Far T) (h : IsFl m T) (t0 : 0 ≤ T) (t1 : T ≤ 1) : 0 ≤ m ∧ m + 1 ≤ 1073741824 := by
  have f := hF (2 ^ 30)
  rw [Rat.intCast_pow, z2] at f
  obtain ⟨h1, h2⟩ := h
  have a : ((0 : Int) : Rat) < ((m + 1 : Int) : Rat) := by rw [z0, Rat.intCast_add, z1]; grind
  have b : ((m : Int) : Rat) < ((2 ^ 30 : Int) : Rat) := by rw [Rat.intCast_pow, z2]; grind
  have a := Rat.intCast_lt_intCast.mp a
  have b := Rat.intCast_lt_intCast.mp b
  have e : (2 : Int) ^ 30 = 1073741824 := by decide
  rw [e] at b
  omega
theorem sinP_range {p : Int} (h0 : 0 ≤ p) (h1 : p ≤ 5400000) : (0 ≤ sinP p ∧ sinP p ≤ 1073741824) ∧ 0 ≤ upI p ∧ upI p ≤ 1073741824 ∧ (exB p = false → sinP p + 1 ≤ 1073741824) := by
  obtain ⟨p, rfl⟩ := Int.eq_ofNat_of_zero_le h0
  unfold upI
  cases he : exB (p : Int) with
  | true =>
    have : sinP (p : Int) = 0 ∨ sinP (p : Int) = 536870912 ∨ sinP (p : Int) = 1073741824 := by
      unfold exB at he
      simp only [Bool.or_eq_true, beq_iff_eq] at he
      unfold sinP
      rcases he with e | e | e <;> rw [e] <;> simp
    rw [if_pos rfl]
    refine ⟨⟨?_, ?_⟩, ?_, ?_, fun h => by cases h⟩ <;> omega
  | false =>
    obtain ⟨hF, hI⟩ := far_tQ he (by omega)
    have t := tQ_01 (p := p) (by omega)
    have r := fl_range hF hI t.1 t.2
    rw [if_neg (by decide)]
    refine ⟨⟨?_, ?_⟩, ?_, ?_, fun _ => ?_⟩ <;> omega
theorem ends_range (n : Int) : (-1073741824 ≤ loI n ∧ loI n ≤ 1073741824) ∧ -1073741824 ≤ hiE n ∧ hiE n ≤ 1073741824 := by
  obtain ⟨p0, p1⟩ := quart_range n
  obtain ⟨⟨a, b⟩, c, d, _⟩ := sinP_range p0 p1
  unfold loI hiE
  split <;> omega
theorem ends_eq (n : Int) : hiE n = if exN n then loI n else loI n + 1 := by
  unfold exN loI hiE upI
  split <;> split <;> omega
variable {Φ : World → Prop} (hst : ∀ w w', Φ w → Below w.heap.size w w' → Φ w')
include hst
omit hst in
theorem s_E1 : Sound Tryz.prog Φ ΓE1 := Sound.nil
omit hst in
theorem q41 {n : Int} (h : Q41 n) : I64 n := by unfold Q41 at h; unfold I64; omega
omit hst in
theorem tmod_c (n : Int) : (n.tmod 21600000 < 0 ∧ n.tmod 21600000 + 21600000 = n % 21600000) ∨ (¬ n.tmod 21600000 < 0 ∧ n.tmod 21600000 = n % 21600000) := tmod_cases n
omit hst in
theorem s_E2 : Sound Tryz.prog Φ ΓE2 := Sound.nil
omit hst in
theorem min_if (x y : Int) : (if y < x then y else x) = min x y := by rw [Int.min_def]; split <;> split <;> omega
omit hst in
theorem max_if (x y : Int) : (if y > x then y else x) = max x y := by rw [Int.max_def]; split <;> split <;> omega
omit hst in
theorem has_back (a b : Int) : hasB a b (-5400000) = hasB a b 16200000 := by
  unfold hasB
  have : (-5400000 - a) % 21600000 = (16200000 - a) % 21600000 := by omega
  rw [this]
omit hst in
theorem enc_tree {a b : Int} {p q : Bool} (hp : hasB a b 5400000 = p) (hq : hasB a b 16200000 = q) :
    (bif p then (bif q then Value.agg #[Value.int IntKind.i64 (-1073741824), Value.int IntKind.i64 1073741824] else Value.agg #[Value.int IntKind.i64 (if loI b < loI a then loI b else loI a), Value.int IntKind.i64 1073741824])
      else (bif q then Value.agg #[Value.int IntKind.i64 (-1073741824), Value.int IntKind.i64 (if hiE b > hiE a then hiE b else hiE a)] else Value.agg #[Value.int IntKind.i64 (if loI b < loI a then loI b else loI a), Value.int IntKind.i64 (if hiE b > hiE a then hiE b else hiE a)])) = wid (encL a b) (encH a b) := by
  unfold encL encH
  rw [hp, hq, min_if, max_if]
  cases p <;> cases q <;> rfl
omit hst in
theorem s_E3 : Sound Tryz.prog Φ ΓE3 := Sound.nil
/-! The program's. -/
theorem c_trturned {n : Int} (hn : I64 n) : Ans Tryz.prog Φ 164 [.int .i64 n] (num (mI n)) := by
  refine fn_by hst Sound.nil (vc_trturned n _) ?_
  have m0 : 0 ≤ mI n ∧ mI n < 21600000 := by unfold mI; omega
  refine bcase_iff.mpr ⟨fun q => ?_, fun q => ?_⟩
  · have q := of_decide_eq_true q
    rcases tmod_cases n with ⟨_, e⟩ | ⟨h, _⟩
    · rw [e, wrap_in (by omega)]
    · exact absurd q h
  · have q := of_decide_eq_false q
    rcases tmod_cases n with ⟨h, _⟩ | ⟨_, e⟩
    · exact absurd h q
    · rw [e]
theorem s_E4 : Sound Tryz.prog Φ ΓE4 :=
  Sound.cons (by kernel_rfl) (fun args p v h hp => by unfold sTurned at h; split at h <;> cases h; exact c_trturned hst hp)
  (Sound.cons (by kernel_rfl) (fun args p v h hp => by unfold sSinP at h; split at h <;> cases h; exact c_trsine hst _ hp.1 hp.2) Sound.nil)
omit hst in
/-- The end of bounds, for an arc of the first quarter. -/
theorem bounds_end {n p : Int} (hp : quartI n = p) (h0 : 0 ≤ p) (h1 : p ≤ 5400000) : bcase (!exB p)
    (bcase (decide (mI n > 10800000)) (Value.tuple #[Value.int IntKind.i64 (IntKind.i64.wrap (0 - IntKind.i64.wrap (sinP p + 1))), Value.int IntKind.i64 (IntKind.i64.wrap (0 - sinP p))] = pair (num (loI n)) (num (hiE n)))
      (Value.tuple #[Value.int IntKind.i64 (sinP p), Value.int IntKind.i64 (IntKind.i64.wrap (sinP p + 1))] = pair (num (loI n)) (num (hiE n))))
    (bcase (decide (mI n > 10800000)) (Value.tuple #[Value.int IntKind.i64 (IntKind.i64.wrap (0 - sinP p)), Value.int IntKind.i64 (IntKind.i64.wrap (0 - sinP p))] = pair (num (loI n)) (num (hiE n)))
      (Value.tuple #[Value.int IntKind.i64 (sinP p), Value.int IntKind.i64 (sinP p)] = pair (num (loI n)) (num (hiE n)))) := by
  obtain ⟨⟨a, b⟩, c, d, f⟩ := sinP_range h0 h1
  unfold loI hiE southB
  rw [hp]
  cases he : exB p with
  | true =>
    have hu : upI p = sinP p := by unfold upI; rw [he]; rfl
    rw [Bool.not_true, bcase_false, hu]
    refine bcase_iff.mpr ⟨fun q => ?_, fun q => ?_⟩
    · rw [show decide (10800000 < mI n) = true from q, if_pos rfl, wrap_in (by omega), Int.zero_sub]
    · rw [show decide (10800000 < mI n) = false from q]
      rfl
  | false =>
    have f := f he
    have hu : upI p = sinP p + 1 := by unfold upI; rw [he]; rfl
    rw [Bool.not_false, bcase_true, hu]
    refine bcase_iff.mpr ⟨fun q => ?_, fun q => ?_⟩
    · rw [show decide (10800000 < mI n) = true from q, if_pos rfl, if_pos rfl, wrap_in (n := sinP p + 1) (by omega), wrap_in (by omega), wrap_in (by omega), Int.zero_sub, Int.zero_sub]
    · rw [show decide (10800000 < mI n) = false from q, wrap_in (by omega)]
      rfl
theorem c_trbounds {n : Int} (hn : Q41 n) : Ans Tryz.prog Φ 148 [.int .i64 n] (pair (num (loI n)) (num (hiE n))) := by
  refine fn_by hst (s_E4 hst) (vc_trbounds n _) ?_
  have m0 : 0 ≤ mI n ∧ mI n < 21600000 := by unfold mI; omega
  refine ⟨q41 hn, bcase_iff.mpr ⟨fun q => ?_, fun q => ?_⟩⟩
  · have q := of_decide_eq_true q
    rw [wrap_in (n := mI n - 10800000) (by omega), wrap_in (n := 10800000 - (mI n - 10800000)) (by omega)]
    refine bcase_iff.mpr ⟨fun r => ?_, fun r => ?_⟩
    · have r := of_decide_eq_true r
      exact ⟨⟨by omega, by omega⟩, bounds_end (by unfold quartI; rw [if_pos (by omega), if_pos (by omega)]; omega) (by omega) (by omega)⟩
    · have r := of_decide_eq_false r
      exact ⟨⟨by omega, by omega⟩, bounds_end (by unfold quartI; rw [if_pos (by omega), if_neg (by omega)]) (by omega) (by omega)⟩
  · have q := of_decide_eq_false q
    refine bcase_iff.mpr ⟨fun r => ?_, fun r => ?_⟩
    · have r := of_decide_eq_true r
      rw [wrap_in (n := 10800000 - mI n) (by omega)]
      exact ⟨⟨by omega, by omega⟩, bounds_end (by unfold quartI; rw [if_neg (by omega), if_pos (by omega)]) (by omega) (by omega)⟩
    · have r := of_decide_eq_false r
      exact ⟨⟨by omega, by omega⟩, bounds_end (by unfold quartI; rw [if_neg (by omega), if_neg (by omega)]) (by omega) (by omega)⟩
theorem c_trmeets {a b n : Int} (ha : Q41 a) (hb : Q41 b) (hn : Q41 n) (hab : a ≤ b) : Ans Tryz.prog Φ 149 [wid a b, .int .i64 n] (.bool (hasB a b n)) := by
  refine fn_by hst (s_E4 hst) (vc_trmeets a b n _) ?_
  unfold Q41 at *
  rw [wrap_in (n := n - a) (by omega), wrap_in (n := b - a) (by omega)]
  exact ⟨by unfold I64; omega, rfl⟩
theorem s_E5 : Sound Tryz.prog Φ ΓE5 :=
  Sound.cons (by kernel_rfl) (fun args p v h hp => by unfold sEnds at h; split at h <;> cases h; exact c_trbounds hst hp)
  (Sound.cons (by kernel_rfl) (fun args p v h hp => by unfold sHas at h; split at h <;> cases h; exact c_trmeets hst hp.1 hp.2.1 hp.2.2.1 hp.2.2.2) Sound.nil)
theorem c_trenc {a b : Int} (ha : Q41 a) (hb : Q41 b) (hab : a ≤ b) : Ans Tryz.prog Φ 125 [wid a b] (wid (encL a b) (encH a b)) := by
  refine fn_by hst (s_E5 hst) (vc_trenc a b _) ?_
  have h1 : Q41 5400000 := ⟨by decide, by decide⟩
  have h2 : Q41 16200000 := ⟨by decide, by decide⟩
  have T := enc_tree (a := a) (b := b) rfl rfl
  refine ⟨ha, hb, ⟨ha, hb, h1, hab⟩, bcase_iff.mpr ⟨fun p => ⟨⟨ha, hb, h2, hab⟩, bcase_iff.mpr ⟨fun q => ?_, fun q => ?_⟩⟩, fun p => ⟨⟨ha, hb, h2, hab⟩, bcase_iff.mpr ⟨fun q => ?_, fun q => ?_⟩⟩⟩⟩ <;> · rw [p, q] at T; exact T
theorem c_trfurther {a b : Int} (ha : Q41 a) (hb : Q41 b) : Ans Tryz.prog Φ 126 [wid a b] (wid (a + 5400000) (b + 5400000)) := by
  refine fn_by hst Sound.nil (vc_trfurther a b _) ?_
  unfold Q41 at *
  rw [wrap_in (n := a + 5400000) (by omega), wrap_in (n := b + 5400000) (by omega)]
theorem c_trvalid (a b : Int) : Ans Tryz.prog Φ 124 [wid a b] (.bool (decide (ArcV a b))) := by
  refine fn_by hst Sound.nil (vc_trvalid a b _) ?_
  unfold ArcV
  refine bcase_iff.mpr ⟨fun p => bcase_iff.mpr ⟨fun q => ?_, fun q => ?_⟩, fun p => ?_⟩
  · have p := of_decide_eq_true p
    have q := of_decide_eq_true q
    exact congrArg Value.bool (decide_eq_decide.mpr ⟨fun h => ⟨p, q, h⟩, fun h => h.2.2⟩)
  · have q := of_decide_eq_false q
    exact congrArg Value.bool (decide_eq_false (fun h => q h.2.1)).symm
  · have p := of_decide_eq_false p
    exact congrArg Value.bool (decide_eq_false (fun h => p h.1)).symm
theorem s_E6 : Sound Tryz.prog Φ ΓE6 :=
  Sound.cons (by kernel_rfl) (fun args p v h hp => by unfold sArcV at h; split at h <;> cases h; exact c_trvalid hst _ _)
  (Sound.cons (by kernel_rfl) (fun args p v h hp => by unfold sEnc at h; split at h <;> cases h; exact c_trenc hst hp.1 hp.2.1 hp.2.2)
  (Sound.cons (by kernel_rfl) (fun args p v h hp => by unfold sFurther at h; split at h <;> cases h; exact c_trfurther hst hp.1 hp.2) Sound.nil))
/-- The program's sine over an arc. -/
theorem c_trSin (a b : Int) : Ans Tryz.prog Φ 85 [wid a b] (if ArcV a b then pair (wid (encL a b) (encH a b)) (num 0) else pair (wid 0 0) (num 1)) := by
  refine fn_by hst (s_E6 hst) (vc_trSin a b _) ?_
  refine ⟨trivial, bcase_iff.mpr ⟨fun q => ?_, fun q => ?_⟩⟩
  · rw [if_neg (by simpa using q)]
  · have h : ArcV a b := by simpa using q
    rw [if_pos h]
    unfold ArcV at h
    exact ⟨⟨by unfold Q41; omega, by unfold Q41; omega, h.2.1⟩, rfl⟩
theorem c_trCos (a b : Int) : Ans Tryz.prog Φ 94 [wid a b] (if ArcV a b then pair (wid (encL (a + 5400000) (b + 5400000)) (encH (a + 5400000) (b + 5400000))) (num 0) else pair (wid 0 0) (num 1)) := by
  refine fn_by hst (s_E6 hst) (vc_trCos a b _) ?_
  refine ⟨trivial, bcase_iff.mpr ⟨fun q => ?_, fun q => ?_⟩⟩
  · rw [if_neg (by simpa using q)]
  · have h : ArcV a b := by simpa using q
    rw [if_pos h]
    unfold ArcV at h
    exact ⟨⟨by unfold Q41; omega, by unfold Q41; omega⟩, ⟨by unfold Q41; omega, by unfold Q41; omega, by omega⟩, rfl⟩
end Go.Proofs.YtjdcicjhpegphaaGreat
