/- The program's sine of a quarter is the sine, rounded down. -/
import Derived.Test.YtidhogcijghogaaGreatDoorMrgT
import Derived.Test.YtidhogcijghogaaGreatDoorMrgN
namespace Go.Proofs.YtidhogcijghogaaGreatDoor
open Go Go.Abs Go.RowKit Go.Sine
set_option linter.unusedVariables false
set_option linter.unusedSimpArgs false
theorem i_le {a b : Int} (h : a ≤ b) : (a : Rat) ≤ (b : Rat) := Rat.intCast_le_intCast.mpr h
theorem i_lt {a b : Int} (h : a < b) : (a : Rat) < (b : Rat) := Rat.intCast_lt_intCast.mpr h
/-- 2^256 -/
def wR : Rat := 2 ^ 256
theorem W4_R : ((W4 : Int) : Rat) = wR := by unfold wR W4; decide +kernel
theorem wR_pos : (0 : Rat) < wR := by unfold wR; grind
theorem z2 : ((2 : Int) : Rat) = 2 := rfl
theorem z1 : ((1 : Int) : Rat) = 1 := rfl
theorem z0 : ((0 : Int) : Rat) = 0 := rfl
theorem mul_R {A B : Int} (hA : 0 ≤ A ∧ A < W4) (hB : 0 ≤ B ∧ B < W4) : wR * (mulI A B : Rat) ≤ (A : Rat) * B ∧ (A : Rat) * B ≤ wR * ((mulI A B : Rat) + 2) := by
  obtain ⟨_, h2, h3⟩ := mulI_bounds hA hB
  have h2 := i_le h2
  have h3 := i_le (Int.le_of_lt h3)
  rw [Rat.intCast_mul, Rat.intCast_mul, W4_R] at h2
  rw [Rat.intCast_mul, Rat.intCast_mul, W4_R, Rat.intCast_add, z2] at h3
  constructor <;> grind
/-- The series of rounds, exactly. -/
def lessR (z : Rat) (o : Nat) : Nat → Rat → Rat
  | 0, u => u
  | k + 1, u => lessR z o k (z / ((2 * k + 1 + o) * (2 * k + 2 + o) : Nat) * (1 - u))
theorem d_two (k o : Nat) : 2 ≤ (2 * k + 1 + o) * (2 * k + 2 + o) := Nat.mul_le_mul (show 1 ≤ 2 * k + 1 + o by omega) (show 2 ≤ 2 * k + 2 + o by omega)
theorem mul_le_one {a b : Rat} (ha : 0 ≤ a) (ha1 : a ≤ 1) (hb : 0 ≤ b) (hb1 : b ≤ 1) : 0 ≤ a * b ∧ a * b ≤ 1 := by
  have := Rat.mul_nonneg ha hb
  have := mul_mono ha1 hb1 hb (by decide : (0 : Rat) ≤ 1)
  constructor <;> grind
theorem idiv_R (Y : Int) (d : Nat) (hd : 0 < d) : (d : Rat) * ((Y / (d : Int) : Int) : Rat) ≤ Y ∧ (Y : Rat) ≤ (d : Rat) * (((Y / (d : Int) : Int) : Rat) + 1) := by
  have h1 : (d : Int) * (Y / (d : Int)) ≤ Y := Int.mul_ediv_self_le (by omega)
  have h2 : Y < (d : Int) * (Y / (d : Int)) + d := Int.lt_mul_ediv_self_add (by omega)
  have h1 := i_le h1
  have h2 := i_le (Int.le_of_lt h2)
  have c : ((d : Int) : Rat) = (d : Rat) := rfl
  rw [Rat.intCast_mul, c] at h1
  rw [Rat.intCast_add, Rat.intCast_mul, c] at h2
  constructor <;> grind
/-- One round: its error. -/
theorem round_err {Y q U : Int} {z u : Rat} {d : Nat} (hd : 2 ≤ d) (hY : 0 ≤ Y ∧ Y < W4) (hq : q = Y / (d : Int)) (hYz : -2 ≤ (Y : Rat) - wR * z ∧ (Y : Rat) - wR * z ≤ 2) (hz : 0 ≤ z ∧ z ≤ 1) (hu : 0 ≤ u ∧ u ≤ 1) (hU : 0 ≤ U ∧ U < W4) (hUu : -8 ≤ (U : Rat) - wR * u ∧ (U : Rat) - wR * u ≤ 8) :
    (q - mulI q U) % W4 = q - mulI q U ∧ (0 ≤ q - mulI q U ∧ q - mulI q U < W4) ∧ (-8 ≤ ((q - mulI q U : Int) : Rat) - wR * (z / d * (1 - u)) ∧ ((q - mulI q U : Int) : Rat) - wR * (z / d * (1 - u)) ≤ 8) ∧ (0 ≤ z / d * (1 - u) ∧ z / d * (1 - u) ≤ 1) := by
  have hq0 : 0 ≤ q := by rw [hq]; exact Int.ediv_nonneg hY.1 (by omega)
  have hqY : q ≤ Y := by rw [hq]; exact Int.ediv_le_self _ hY.1
  have hq1 : 0 ≤ q ∧ q < W4 := ⟨hq0, Int.lt_of_le_of_lt hqY hY.2⟩
  obtain ⟨m0, _⟩ := mulI_lt hq1 hU
  obtain ⟨m1, m2⟩ := mul_R hq1 hU
  have wp := wR_pos
  have Uw : (U : Rat) ≤ wR := by rw [← W4_R]; exact i_le (Int.le_of_lt hU.2)
  have U0 : (0 : Rat) ≤ U := by rw [← z0]; exact i_le hU.1
  have q0 : (0 : Rat) ≤ q := by rw [← z0]; exact i_le hq0
  have mq : mulI q U ≤ q := by
    have h : wR * (mulI q U : Rat) ≤ wR * q := by
      have := Rat.mul_le_mul_of_nonneg_left Uw q0
      grind
    exact Rat.intCast_le_intCast.mp (le_cancel wp h)
  have r : 0 ≤ q - mulI q U ∧ q - mulI q U < W4 := by omega
  refine ⟨Int.emod_eq_of_lt r.1 r.2, r, ?_⟩
  obtain ⟨d1, d2⟩ := idiv_R Y d (by omega)
  rw [← hq] at d1 d2
  have dR : (2 : Rat) ≤ d := cast_le hd
  have dp : (0 : Rat) < d := by grind
  -- the quotient z / d
  obtain ⟨v, hv⟩ : ∃ v, z / (d : Rat) = v := ⟨_, rfl⟩
  have hv' : (d : Rat) * v = z := by rw [← hv]; have : (d : Rat) ≠ 0 := by grind
                                     rw [Rat.mul_comm, Rat.div_mul_cancel this]
  rw [hv]
  have v0 : 0 ≤ v := le_cancel dp (by grind)
  have v2 : 2 * v ≤ 1 := by
    have := Rat.mul_le_mul_of_nonneg_right dR v0
    grind
  -- the error of q
  have hw : (d : Rat) * (wR * v) = wR * z := by rw [← hv']; grind
  have qe : -2 ≤ (q : Rat) - wR * v ∧ (q : Rat) - wR * v ≤ 2 := by
    generalize (q : Rat) = Q at *
    generalize wR * v = p at *
    generalize wR * z = p' at *
    clear hv hv' mq r hq hqY hq1 m0 hY hU m1 m2 Uw U0 hUu
    have h1 : (d : Rat) * (p - 2) ≤ d * Q := by grind
    have h2 : (d : Rat) * Q ≤ d * (p + 2) := by grind
    have h1 := le_cancel dp h1
    have h2 := le_cancel dp h2
    constructor <;> grind
  have b := mul_le_one v0 (by grind) (show 0 ≤ 1 - u by grind) (by grind)
  refine ⟨?_, b⟩
  rw [Rat.intCast_sub]
  -- everything times wR
  have k1 := Rat.mul_le_mul_of_nonneg_right qe.1 (show 0 ≤ wR - U by grind)
  have k2 := Rat.mul_le_mul_of_nonneg_right qe.2 (show 0 ≤ wR - U by grind)
  have k3 := Rat.mul_le_mul_of_nonneg_left hUu.1 v0
  have k4 := Rat.mul_le_mul_of_nonneg_left hUu.2 v0
  have k5 := Rat.mul_le_mul_of_nonneg_left k3 (Rat.le_of_lt wp)
  have k6 := Rat.mul_le_mul_of_nonneg_left k4 (Rat.le_of_lt wp)
  have k7 := Rat.mul_le_mul_of_nonneg_left v2 (Rat.le_of_lt wp)
  generalize (mulI q U : Rat) = M at *
  generalize (q : Rat) = Q at *
  generalize (U : Rat) = V at *
  clear d1 d2 hv' hYz mq r hq hqY hq1 m0 hY hU dR
  constructor
  · exact le_cancel wp (by grind)
  · exact le_cancel wp (by grind)
theorem less_err {Y : Int} {z : Rat} {o : Nat} (hY : 0 ≤ Y ∧ Y < W4) (hYz : -2 ≤ (Y : Rat) - wR * z ∧ (Y : Rat) - wR * z ≤ 2) (hz : 0 ≤ z ∧ z ≤ 1) : ∀ k {U : Int} {u : Rat}, (0 ≤ U ∧ U < W4) → (0 ≤ u ∧ u ≤ 1) → (-8 ≤ (U : Rat) - wR * u ∧ (U : Rat) - wR * u ≤ 8) →
    (-8 ≤ (lessI Y o k U : Rat) - wR * lessR z o k u ∧ (lessI Y o k U : Rat) - wR * lessR z o k u ≤ 8) ∧ (0 ≤ lessR z o k u ∧ lessR z o k u ≤ 1)
  | 0, U, u, _, hu, h => ⟨h, hu⟩
  | k + 1, U, u, hU, hu, h => by
    have e : (2 * (k : Int) + 1 + (o : Int)) * (2 * k + 2 + o) = (((2 * k + 1 + o) * (2 * k + 2 + o) : Nat) : Int) := by simp
    obtain ⟨a1, a2, a3, a4⟩ := round_err (q := Y / (((2 * k + 1 + o) * (2 * k + 2 + o) : Nat) : Int)) (d_two k o) hY rfl hYz hz hu hU h
    have := less_err (o := o) hY hYz hz k a2 a4 a3
    unfold lessI lessR
    rw [e, a1]
    exact this
/-- The series is the sum with alternating signs. -/
theorem less_F (x : Rat) (o : Nat) : ∀ k N u, F cg (2 * k + o) N x = e (2 * k + o) x * (1 - u) → F cg o (2 * k + N) x = e o x * (1 - lessR (x * x) o k u)
  | 0, N, u, h => by
    rw [Nat.mul_zero, Nat.zero_add] at h
    rw [Nat.mul_zero, Nat.zero_add]
    exact h
  | k + 1, N, u, h => by
    rw [show 2 * (k + 1) + N = 2 * k + (N + 2) by omega]
    unfold lessR
    apply less_F x o k (N + 2)
    rw [F_cg, show 2 * k + o + 2 = 2 * (k + 1) + o by omega, h]
    have q1 := e_succ (2 * k + o + 1) x
    have q2 := e_succ (2 * k + o) x
    have c : ((2 * k + o + 1 : Nat) : Rat) = ((2 * k + o : Nat) : Rat) + 1 := by simp
    rw [c] at q1
    have hD : (((2 * k + 1 + o) * (2 * k + 2 + o) : Nat) : Rat) = (((2 * k + o : Nat) : Rat) + 1) * (((2 * k + o : Nat) : Rat) + 2) := by
      have e1 : ((2 * k + 1 + o : Nat) : Rat) = ((2 * k + o : Nat) : Rat) + 1 := by rw [← c]; congr 1; omega
      have e2 : ((2 * k + 2 + o : Nat) : Rat) = ((2 * k + o : Nat) : Rat) + 2 := by
        rw [show 2 * k + 2 + o = (2 * k + o) + 2 by omega, Rat.natCast_add]; rfl
      rw [Rat.natCast_mul, e1, e2]
    have d2 := cast_le (d_two k o)
    have z2' : ((2 : Nat) : Rat) = 2 := rfl
    rw [z2'] at d2
    have eD : (((2 * k + 1 + o) * (2 * k + 2 + o) : Nat) : Rat) * e (2 * (k + 1) + o) x = x * x * e (2 * k + o) x := by
      rw [hD, show 2 * (k + 1) + o = 2 * k + o + 1 + 1 by omega]
      grind
    generalize (((2 * k + 1 + o) * (2 * k + 2 + o) : Nat) : Rat) = D at *
    have hv : D * (x * x / D) = x * x := by rw [Rat.mul_comm, Rat.div_mul_cancel (by grind)]
    generalize x * x / D = v at *
    have Dp : 0 < D := by grind
    have key : e (2 * (k + 1) + o) x = v * e (2 * k + o) x := mul_cancel Dp (by grind)
    rw [key]
    grind
theorem sum69 (x : Rat) (o : Nat) : F cg o 69 x = e o x * (1 - lessR (x * x) o 34 0) := by
  have := less_F x o 34 1 0 (by rw [F_cg1]; grind)
  exact this
/-- Sums that end elsewhere. -/
theorem F_close {x : Rat} (hx : 0 ≤ x) (h1 : x ≤ 1) : ∀ k a M N, -(4 * e (a + 2 * k) x) ≤ F cg a (2 * k + M) x - F cg a (2 * k + N) x ∧ F cg a (2 * k + M) x - F cg a (2 * k + N) x ≤ 4 * e (a + 2 * k) x
  | 0, a, M, N => by
    have u := (F_two hx h1 M a).1
    have v := (F_two hx h1 N a).1
    rw [Nat.mul_zero, Nat.zero_add, Nat.zero_add, Nat.add_zero]
    constructor <;> grind
  | k + 1, a, M, N => by
    have := F_close hx h1 k (a + 2) M N
    rw [show 2 * (k + 1) + M = 2 * k + M + 2 by omega, show 2 * (k + 1) + N = 2 * k + N + 2 by omega, F_cg, F_cg, show a + 2 * (k + 1) = a + 2 + 2 * k by omega]
    constructor <;> grind
theorem e_68 {x : Rat} (hx : 0 ≤ x) (h1 : x ≤ 1) (j : Nat) (hj : 68 ≤ j) : 2 ^ 67 * e j x ≤ 1 := by
  obtain ⟨i, rfl⟩ : ∃ i, j = (67 + i) + 1 := ⟨j - 68, by omega⟩
  have t := e_tiny hx h1 (67 + i)
  have p : (1 : Rat) ≤ 2 ^ i := by
    clear t hj
    induction i with
    | zero => decide
    | succ i ih => rw [Rat.pow_succ]; grind
  have n0 := e_nonneg hx (67 + i + 1)
  rw [pow_addQ] at t
  have u := Rat.mul_le_mul_of_nonneg_right p n0
  have v := Rat.mul_le_mul_of_nonneg_left u (show (0 : Rat) ≤ 2 ^ 67 by decide)
  grind
/-- The number, times 2^30, rounded down. -/
def IsFl (m : Int) (T : Rat) : Prop := (m : Rat) ≤ 2 ^ 30 * T ∧ 2 ^ 30 * T < (m : Rat) + 1
theorem isFl_one {m n : Int} {T : Rat} (h : IsFl m T) (k : IsFl n T) : m = n := by
  have a : (m : Rat) < (n : Rat) + 1 := by have := h.1; have := k.2; grind
  have b : (n : Rat) < (m : Rat) + 1 := by have := k.1; have := h.2; grind
  have a : m < n + 1 := Rat.intCast_lt_intCast.mp (by rw [Rat.intCast_add, z1]; exact a)
  have b : n < m + 1 := Rat.intCast_lt_intCast.mp (by rw [Rat.intCast_add, z1]; exact b)
  omega
/-- A number that is near one that is far from all multiples has the same integer below. -/
theorem isFl_near {V : Int} {q : Nat} {T : Rat} (hF : Far T) (hV : -600 ≤ (V : Rat) * (1 / 2 ^ q) - 2 ^ 62 * T ∧ (V : Rat) * (1 / 2 ^ q) - 2 ^ 62 * T ≤ 600) : IsFl (V / (2 ^ (32 + q) : Int)) T := by
  have hp : (0 : Int) < 2 ^ (32 + q) := Int.pow_pos (by decide)
  have h1 : (2 ^ (32 + q) : Int) * (V / (2 ^ (32 + q) : Int)) ≤ V := Int.mul_ediv_self_le (Int.ne_of_gt hp)
  have h2 : V < (2 ^ (32 + q) : Int) * (V / (2 ^ (32 + q) : Int)) + 2 ^ (32 + q) := Int.lt_mul_ediv_self_add hp
  have h1 := i_le h1
  have h2 := i_lt h2
  generalize V / (2 ^ (32 + q) : Int) = m at *
  rw [Rat.intCast_mul, Rat.intCast_pow, z2, pow_addQ] at h1
  rw [Rat.intCast_add, Rat.intCast_mul, Rat.intCast_pow, z2, pow_addQ] at h2
  have Qp : (0 : Rat) < 2 ^ q := Rat.pow_pos (by decide)
  have hinv : (2 : Rat) ^ q * (1 / 2 ^ q) = 1 := by rw [Rat.mul_comm, Rat.div_mul_cancel (by grind)]
  generalize (2 : Rat) ^ q = Q at *
  generalize 1 / Q = R at *
  have Rp : 0 ≤ R := by
    have : Q * 0 ≤ Q * R := by rw [hinv]; grind
    exact le_cancel Qp this
  have k1 := Rat.mul_le_mul_of_nonneg_right h1 Rp
  have k2 := Rat.mul_le_mul_of_nonneg_right (Rat.le_of_lt h2) Rp
  have e1 : 2 ^ 32 * Q * (m : Rat) * R = 2 ^ 32 * m := by rw [show 2 ^ 32 * Q * (m : Rat) * R = 2 ^ 32 * m * (Q * R) by grind, hinv]; grind
  have e2 : (2 ^ 32 * Q * (m : Rat) + 2 ^ 32 * Q) * R = 2 ^ 32 * m + 2 ^ 32 := by rw [show (2 ^ 32 * Q * (m : Rat) + 2 ^ 32 * Q) * R = (2 ^ 32 * m + 2 ^ 32) * (Q * R) by grind, hinv]; grind
  rw [e1] at k1
  rw [e2] at k2
  have f1 := hF m
  have f2 := hF (m + 1)
  have f3 := hF (m - 1)
  rw [Rat.intCast_add, z1] at f2
  rw [Rat.intCast_sub, z1] at f3
  generalize (V : Rat) * R = v at *
  clear h1 h2 e1 e2 hinv Rp Qp
  constructor <;> grind
/-- Sines and cosines of angles that lie near each other. -/
theorem sn_lip {x y : Rat} (hx : 0 ≤ x) (hy : 0 ≤ y) (h1 : x + y ≤ 1) : -(8 * y + 1 / 2 ^ 70) ≤ sn (x + y) - sn x ∧ sn (x + y) - sn x ≤ 8 * y + 1 / 2 ^ 70 := by
  have a := sn_add hx hy h1
  have s := sn_le hx (by grind)
  have c := cs_le hx (by grind)
  have ch := cs_half hx (by grind)
  have y1 : y ≤ 1 := by grind
  have e1 := e_one y
  have n2 := e_nonneg hy 2; have n3 := e_nonneg hy 3; have n4 := e_nonneg hy 4; have n5 := e_nonneg hy 5; have n6 := e_nonneg hy 6
  have l2 := (e_le hy y1 0).1; have l3 := e_half hy y1 1; have l4 := e_half hy y1 2; have l5 := e_half hy y1 3; have l6 := e_half hy y1 4
  have g1 : -y ≤ ga y - 1 ∧ ga y - 1 ≤ y := by unfold ga; constructor <;> grind
  have g2 : 0 ≤ si y ∧ si y ≤ 2 * y := by unfold si; constructor <;> grind
  have m1 := mul_abs g1.1 g1.2 s.1 (by grind) hy
  have m2 := mul_abs (a := si y) (d := 2 * y) (t := cs x) (by grind) g2.2 (by grind) c.2 (by grind)
  constructor <;> grind
theorem cs_lip {x y : Rat} (hx : 0 ≤ x) (hy : 0 ≤ y) (h1 : x + y ≤ 1) : -(8 * y + 1 / 2 ^ 70) ≤ cs (x + y) - cs x ∧ cs (x + y) - cs x ≤ 8 * y + 1 / 2 ^ 70 := by
  have a := cs_add hx hy h1
  have s := sn_le hx (by grind)
  have c := cs_le hx (by grind)
  have ch := cs_half hx (by grind)
  have y1 : y ≤ 1 := by grind
  have e1 := e_one y
  have n2 := e_nonneg hy 2; have n3 := e_nonneg hy 3; have n4 := e_nonneg hy 4; have n5 := e_nonneg hy 5; have n6 := e_nonneg hy 6
  have l2 := (e_le hy y1 0).1; have l3 := e_half hy y1 1; have l4 := e_half hy y1 2; have l5 := e_half hy y1 3; have l6 := e_half hy y1 4
  have g1 : -y ≤ ga y - 1 ∧ ga y - 1 ≤ y := by unfold ga; constructor <;> grind
  have g2 : 0 ≤ si y ∧ si y ≤ 2 * y := by unfold si; constructor <;> grind
  have m1 := mul_abs g1.1 g1.2 (t := cs x) (by grind) c.2 hy
  have m2 := mul_abs (a := si y) (d := 2 * y) (t := sn x) (by grind) g2.2 s.1 (by grind) (by grind)
  constructor <;> grind
theorem lip_any {f : Rat → Rat} (hf : ∀ x y, 0 ≤ x → 0 ≤ y → x + y ≤ 1 → -(8 * y + 1 / 2 ^ 70) ≤ f (x + y) - f x ∧ f (x + y) - f x ≤ 8 * y + 1 / 2 ^ 70) {x z d : Rat} (hx : 0 ≤ x) (hz : 0 ≤ z) (x1 : x ≤ 1) (z1 : z ≤ 1) (h : -d ≤ x - z ∧ x - z ≤ d) :
    -(8 * d + 1 / 2 ^ 70) ≤ f x - f z ∧ f x - f z ≤ 8 * d + 1 / 2 ^ 70 := by
  rcases Rat.le_total (a := x) (b := z) with q | q
  · have k := hf x (z - x) hx (by grind) (by grind)
    rw [show x + (z - x) = z by grind] at k
    constructor <;> grind
  · have k := hf z (x - z) hz (by grind) (by grind)
    rw [show z + (x - z) = x by grind] at k
    constructor <;> grind
/-- The program's angle is near the angle. -/
theorem rad_near {n : Nat} (h : n ≤ 2700000) : -(1 : Rat) ≤ 2 ^ 60 * ((radI n : Rat) / wR - an n) ∧ 2 ^ 60 * ((radI n : Rat) / wR - an n) ≤ 1 := by
  have e1 : (10800000 : Int) * radI n ≤ piI * n := by unfold radI; exact Int.mul_ediv_self_le (by decide)
  have e2 : piI * n < (10800000 : Int) * radI n + 10800000 := by unfold radI; exact Int.lt_mul_ediv_self_add (by decide)
  -- pi, as the program and as the reference have it
  have p1 : (U : Int) * 10800000 * 2 ^ 172 ≤ piI := by unfold U piI; decide +kernel
  have p2 : piI ≤ ((U : Int) + 1) * 10800000 * 2 ^ 172 := by unfold U piI; decide +kernel
  have n1 : (U : Int) * 10800000 * 2 ^ 172 * n ≤ piI * n := Int.mul_le_mul_of_nonneg_right p1 (by omega)
  have n2 : piI * n ≤ ((U : Int) + 1) * 10800000 * 2 ^ 172 * n := Int.mul_le_mul_of_nonneg_right p2 (by omega)
  have r1 : (n : Int) * U * 2 ^ 172 ≤ radI n + 1 := by
    have : (10800000 : Int) * (n * U * 2 ^ 172) ≤ 10800000 * (radI n + 1) := by
      have : (10800000 : Int) * (n * U * 2 ^ 172) = U * 10800000 * 2 ^ 172 * n := by grind
      omega
    omega
  have r2 : radI n ≤ (n : Int) * U * 2 ^ 172 + n * 2 ^ 172 := by
    have : (10800000 : Int) * radI n ≤ 10800000 * ((n : Int) * U * 2 ^ 172 + n * 2 ^ 172) := by
      have : (10800000 : Int) * ((n : Int) * U * 2 ^ 172 + n * 2 ^ 172) = (U + 1) * 10800000 * 2 ^ 172 * n := by grind
      omega
    omega
  have r1 := i_le r1
  have r2 := i_le r2
  have nn : (n : Rat) ≤ 2700000 := by have := cast_le h; exact this
  have n0 : (0 : Rat) ≤ n := Rat.natCast_nonneg
  simp only [Rat.intCast_add, Rat.intCast_mul, Rat.intCast_pow, z2, z1] at r1 r2
  have cn : (((n : Nat) : Int) : Rat) = (n : Rat) := rfl
  have cu : (((U : Nat) : Int) : Rat) = (U : Rat) := rfl
  rw [cn, cu] at r1 r2
  have ha : an n = (n : Rat) * U / 2 ^ 84 := by unfold an; rw [Rat.natCast_mul]
  rw [ha]
  unfold wR
  generalize (radI n : Rat) = R at *
  generalize (n : Rat) * (U : Rat) = P at *
  clear e1 e2 p1 p2 n1 n2 h
  constructor <;> grind
end Go.Proofs.YtidhogcijghogaaGreatDoor
