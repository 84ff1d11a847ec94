/- The program's sine of a quarter is the sine, rounded down. -/
import Derived.Test.YtidhogcijghogaaGreatDoorTrgF
namespace Go.Proofs.YtidhogcijghogaaGreatDoor
open Go Go.Abs Go.RowKit Go.Sine
set_option linter.unusedVariables false
set_option linter.unusedSimpArgs false
/-- A number of the program's, as a part of 1. -/
theorem part {X : Int} (h : 0 ≤ X ∧ X < W4) : ∃ x : Rat, (X : Rat) = wR * x ∧ 0 ≤ x ∧ x ≤ 1 ∧ (X : Rat) / wR = x := by
  have wp := wR_pos
  have hx : wR * ((X : Rat) / wR) = X := by rw [Rat.mul_comm, Rat.div_mul_cancel (by grind)]
  have h0 : (0 : Rat) ≤ X := by rw [← z0]; exact i_le h.1
  have h1 : (X : Rat) ≤ wR := by rw [← W4_R]; exact i_le (Int.le_of_lt h.2)
  refine ⟨_, hx.symm, ?_, ?_, rfl⟩
  · exact le_cancel wp (by rw [hx]; grind)
  · exact le_cancel wp (by rw [hx]; grind)
theorem square_err {X : Int} (h : 0 ≤ X ∧ X < W4) {x : Rat} (hX : (X : Rat) = wR * x) : -2 ≤ (mulI X X : Rat) - wR * (x * x) ∧ (mulI X X : Rat) - wR * (x * x) ≤ 2 := by
  obtain ⟨m1, m2⟩ := mul_R h h
  have wp := wR_pos
  rw [hX] at m1 m2
  constructor
  · have : wR * (wR * (x * x) - 2) ≤ wR * (mulI X X : Rat) := by grind
    have := le_cancel wp this
    grind
  · have : wR * (mulI X X : Rat) ≤ wR * (wR * (x * x) + 2) := by grind
    have := le_cancel wp this
    grind
/-- The program's sine of an angle in 256 digits. -/
theorem sinX_err {X : Int} (h : 0 ≤ X ∧ X < W4) {x : Rat} (hX : (X : Rat) = wR * x) (x0 : 0 ≤ x) (x1 : x ≤ 1) : -10 ≤ (sinX X : Rat) - wR * F cg 1 69 x ∧ (sinX X : Rat) - wR * F cg 1 69 x ≤ 10 := by
  have wp := wR_pos
  have sq := square_err h hX
  have Yb := mulI_lt h h
  have xx := mul_le_one x0 x1 x0 x1
  obtain ⟨L, lb⟩ := less_err (o := 1) Yb sq xx 34 (U := 0) (u := 0) ⟨Int.le_refl _, by decide⟩ ⟨Rat.le_refl, by decide⟩ (by rw [z0]; constructor <;> grind)
  have Ll := lessI_lt (mulI X X) 1 34 (Int.le_refl 0) (by decide)
  have s69 := sum69 x 1
  rw [e_one] at s69
  have c1 : (((1 : Nat) : Int)) = 1 := rfl
  rw [c1] at L
  unfold sinX
  generalize lessI (mulI X X) 1 34 0 = l at *
  obtain ⟨M0, _⟩ := mulI_lt h Ll
  obtain ⟨m1, m2⟩ := mul_R h Ll
  have l1 : (l : Rat) ≤ wR := by rw [← W4_R]; exact i_le (Int.le_of_lt Ll.2)
  have M1 : mulI X l ≤ X := by
    have : wR * (mulI X l : Rat) ≤ wR * X := by
      have X0 : (0 : Rat) ≤ X := by rw [← z0]; exact i_le h.1
      have := Rat.mul_le_mul_of_nonneg_left l1 X0
      grind
    exact Rat.intCast_le_intCast.mp (le_cancel wp this)
  rw [Int.emod_eq_of_lt (by omega) (by omega), s69, Rat.intCast_sub]
  rw [hX] at m1 m2
  have k1 := Rat.mul_le_mul_of_nonneg_left L.1 x0
  have k2 := Rat.mul_le_mul_of_nonneg_left L.2 x0
  have k3 := Rat.mul_le_mul_of_nonneg_left k1 (Rat.le_of_lt wp)
  have k4 := Rat.mul_le_mul_of_nonneg_left k2 (Rat.le_of_lt wp)
  have k5 := Rat.mul_le_mul_of_nonneg_left x1 (Rat.le_of_lt wp)
  rw [hX]
  generalize lessR (x * x) 1 34 0 = E at *
  generalize (l : Rat) = l' at *
  generalize (mulI X l : Rat) = M at *
  clear hX M1 M0 Ll Yb sq s69 xx lb L k1 k2 h l1
  constructor
  · exact le_cancel wp (by grind)
  · exact le_cancel wp (by grind)
/-- One less the cosine is not too small. -/
theorem vers_pos {x : Rat} (x0 : 0 ≤ x) (x1 : x ≤ 1) : x * x ≤ 4 * (1 - F cg 0 69 x) := by
  rw [show (69 : Nat) = 67 + 2 from rfl, F_cg, show (67 : Nat) = 65 + 2 from rfl, F_cg]
  have k := (F_two x0 x1 65 (0 + 2 + 2)).1
  have e2 := e_two x
  have e4 := e_four x
  have e0 := e_zero x
  have xx := mul_le_one x0 x1 x0 x1
  have := Rat.mul_le_mul_of_nonneg_left xx.2 xx.1
  grind
theorem cosX_err {X : Int} (h : 0 ≤ X ∧ X < W4) {x : Rat} (hX : (X : Rat) = wR * x) (x0 : 1 ≤ 2 ^ 23 * x) (x1 : x ≤ 1) : -10 ≤ (cosX X : Rat) - wR * F cg 0 69 x ∧ (cosX X : Rat) - wR * F cg 0 69 x ≤ 10 := by
  have wp := wR_pos
  have x00 : 0 ≤ x := by grind
  have sq := square_err h hX
  have Yb := mulI_lt h h
  have xx := mul_le_one x00 x1 x00 x1
  obtain ⟨L, lb⟩ := less_err (o := 0) Yb sq xx 34 (U := 0) (u := 0) ⟨Int.le_refl _, by decide⟩ ⟨Rat.le_refl, by decide⟩ (by rw [z0]; constructor <;> grind)
  have Ll := lessI_lt (mulI X X) 0 34 (Int.le_refl 0) (by decide)
  have s69 := sum69 x 0
  rw [e_zero] at s69
  have vp := vers_pos x00 x1
  have c1 : (((0 : Nat) : Int)) = 0 := rfl
  rw [c1] at L
  unfold cosX
  generalize lessI (mulI X X) 0 34 0 = l at *
  have lp : 0 < l := by
    have x2 : 1 ≤ 2 ^ 46 * (x * x) := by
      have := mul_mono x0 x0 (by decide : (0 : Rat) ≤ 1) (by grind : (0 : Rat) ≤ 2 ^ 23 * x)
      grind
    have : ((0 : Int) : Rat) < (l : Rat) := by
      rw [z0]
      have e1 : wR = 2 ^ 50 * 2 ^ 206 := by unfold wR; grind
      rw [e1] at L
      have : (16 : Rat) ≤ 2 ^ 206 := by decide +kernel
      rw [s69] at vp
      generalize lessR (x * x) 0 34 0 = E at *
      have e2 : 1 ≤ 2 ^ 50 * E := by grind
      have := Rat.mul_le_mul_of_nonneg_left e2 (show (0 : Rat) ≤ 2 ^ 206 by decide +kernel)
      generalize (2 : Rat) ^ 206 = w at *
      generalize (l : Rat) = l' at *
      clear hX Ll Yb sq s69 xx lb h x2 vp
      grind
    exact Rat.intCast_lt_intCast.mp this
  have e : (0 - l) % W4 = W4 - l := by
    rw [← Int.add_emod_right, Int.emod_eq_of_lt (by omega) (by omega)]
    omega
  rw [e, s69, Rat.intCast_sub, W4_R]
  generalize lessR (x * x) 0 34 0 = E at *
  constructor <;> grind
theorem F69 {x : Rat} (x0 : 0 ≤ x) (x1 : x ≤ 1) (a M N : Nat) : -1 ≤ 2 ^ 65 * (F cg a (2 * 34 + M) x - F cg a (2 * 34 + N) x) ∧ 2 ^ 65 * (F cg a (2 * 34 + M) x - F cg a (2 * 34 + N) x) ≤ 1 := by
  have h := F_close x0 x1 34 a M N
  have k := e_68 x0 x1 (a + 2 * 34) (by omega)
  constructor <;> grind
theorem fin_err {V T T' S : Rat} (h1 : -10 ≤ V - wR * S ∧ V - wR * S ≤ 10) (h2 : -1 ≤ 2 ^ 65 * (S - T') ∧ 2 ^ 65 * (S - T') ≤ 1) (h3 : -(8 * (1 / 2 ^ 60) + 1 / 2 ^ 70) ≤ T' - T ∧ T' - T ≤ 8 * (1 / 2 ^ 60) + 1 / 2 ^ 70) :
    -600 ≤ V * (1 / 2 ^ 194) - 2 ^ 62 * T ∧ V * (1 / 2 ^ 194) - 2 ^ 62 * T ≤ 600 := by
  have e : wR = 2 ^ 194 * 2 ^ 62 := by unfold wR; grind
  rw [e] at h1
  have p : (1 : Rat) ≤ 2 ^ 194 := by decide +kernel
  have hinv : (2 : Rat) ^ 194 * (1 / 2 ^ 194) = 1 := by rw [Rat.mul_comm, Rat.div_mul_cancel (by grind)]
  generalize (2 : Rat) ^ 194 = w at *
  generalize 1 / w = r at *
  have r0 : 0 ≤ r := by
    have : w * 0 ≤ w * r := by rw [hinv]; grind
    exact le_cancel (by grind) this
  have r1 : r ≤ 1 := by
    have : r * 1 ≤ r * w := Rat.mul_le_mul_of_nonneg_left p r0
    grind
  have k1 := Rat.mul_le_mul_of_nonneg_right h1.1 r0
  have k2 := Rat.mul_le_mul_of_nonneg_right h1.2 r0
  have e2 : (V - w * 2 ^ 62 * S) * r = V * r - 2 ^ 62 * S := by
    rw [show (V - w * 2 ^ 62 * S) * r = V * r - 2 ^ 62 * S * (w * r) by grind, hinv]; grind
  rw [e2] at k1 k2
  generalize V * r = v at *
  clear h1 e hinv e2
  constructor <;> grind
theorem an_pos {n : Nat} (h : n ≠ 0) : 1 ≤ 2 ^ 22 * an n := by
  unfold an
  have : 1 * U ≤ n * U := Nat.mul_le_mul_right _ (by omega)
  have k : 2 ^ 62 ≤ 1 * U := by decide
  have := cast_le (Nat.le_trans k this)
  rw [Rat.natCast_pow, show ((2 : Nat) : Rat) = 2 from rfl] at this
  grind
theorem sin_fl {n : Nat} (h0 : n ≠ 0) (h1 : n ≠ 1800000) (h2 : n ≤ 2700000) : IsFl (sinX (radI n) / 107839786668602559178668060348078522694548577690162289924414440996864) (sn (an n)) := by
  have hb := radI_lt (n := (n : Int)) (by omega) (by omega)
  obtain ⟨x, hX, x0, x1, hx⟩ := part hb
  have nr := rad_near h2
  rw [hx] at nr
  have a0 := an_nonneg n
  have a1 := an_le h2
  have E := sinX_err hb hX x0 x1
  have C := F69 x0 x1 1 1 12
  have sx : sn x = F cg 1 (2 * 34 + 12) x := sn_eq x
  rw [← sx] at C
  have l := lip_any (f := sn) (fun x y a b c => sn_lip a b c) x0 a0 x1 (by grind) (d := 1 / 2 ^ 60) (by constructor <;> grind)
  have := isFl_near (q := 194) (far_sn h0 h1 h2) (fin_err E C l)
  have e : (2 ^ (32 + 194) : Int) = 107839786668602559178668060348078522694548577690162289924414440996864 := by decide +kernel
  rw [e] at this
  exact this
theorem cos_fl {n : Nat} (h0 : n ≠ 0) (h2 : n ≤ 2700000) : IsFl (cosX (radI n) / 107839786668602559178668060348078522694548577690162289924414440996864) (cs (an n)) := by
  have hb := radI_lt (n := (n : Int)) (by omega) (by omega)
  obtain ⟨x, hX, x0, x1, hx⟩ := part hb
  have nr := rad_near h2
  rw [hx] at nr
  have a0 := an_nonneg n
  have a1 := an_le h2
  have ap := an_pos h0
  have E := cosX_err hb hX (by grind) x1
  have C := F69 x0 x1 0 1 13
  have sx : cs x = F cg 0 (2 * 34 + 13) x := rfl
  rw [← sx] at C
  have l := lip_any (f := cs) (fun x y a b c => cs_lip a b c) x0 a0 x1 (by grind) (d := 1 / 2 ^ 60) (by constructor <;> grind)
  have := isFl_near (q := 194) (far_cs h0 h2) (fin_err E C l)
  have e : (2 ^ (32 + 194) : Int) = 107839786668602559178668060348078522694548577690162289924414440996864 := by decide +kernel
  rw [e] at this
  exact this
end Go.Proofs.YtidhogcijghogaaGreatDoor
