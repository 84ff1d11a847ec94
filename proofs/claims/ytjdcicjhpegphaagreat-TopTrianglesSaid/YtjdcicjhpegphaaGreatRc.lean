/- Spherical triangles over the real numbers: sides, angles, excess. Plain: no program is in sight here. The excess of a spherical triangle; its points; courses. Plain: no program is in sight here. -/
import Derived.Test.YtjdcicjhpegphaaGreatRa
set_option linter.unusedVariables false
namespace Go.Re
theorem cancel {a x y : Rl} (h : 0 < a) (e : a * x = a * y) : x = y := by
  obtain ⟨i, i0, hi⟩ := exists_inv h
  have e1 : x = i * (a * x) := by
    have : i * (a * x) = (a * i) * x := by grind
    rw [this, hi]
    grind
  have e2 : y = i * (a * y) := by
    have : i * (a * y) = (a * i) * y := by grind
    rw [this, hi]
    grind
  rw [e1, e2, e]
theorem cancel_le {a x y : Rl} (h : 0 < a) (e : a * x ≤ a * y) : x ≤ y := by
  apply Classical.byContradiction
  intro c
  have := rmul_pos h (show 0 < x - y by grind)
  grind
theorem dbl (x : Rl) : Sn x = 2 * (Sn (hf x) * Cn (hf x)) ∧ Cn x = 2 * (Cn (hf x) * Cn (hf x)) - 1 ∧ Cn x = 1 - 2 * (Sn (hf x) * Sn (hf x)) := by
  have a := Sn_add (hf x) (hf x)
  have b := Cn_add (hf x) (hf x)
  have n := nrm (hf x)
  rw [hf_two] at a b
  grind
theorem two_ss (x y : Rl) : 2 * (Sn x * Sn y) = Cn (x - y) - Cn (x + y) := by rw [Cn_sub, Cn_add]; grind
theorem two_cc (x y : Rl) : 2 * (Cn x * Cn y) = Cn (x - y) + Cn (x + y) := by rw [Cn_sub, Cn_add]; grind
structure Tri (α β γ : Rl) : Prop where
  a0 : 0 ≤ α
  a1 : α ≤ 10800000
  b0 : 0 ≤ β
  b1 : β ≤ 10800000
  c0 : 0 ≤ γ
  c1 : γ ≤ 10800000
  g : 0 ≤ 1 - Cn α * Cn α - Cn β * Cn β - Cn γ * Cn γ + 2 * (Cn α * (Cn β * Cn γ))
theorem Tri.rot {α β γ : Rl} (t : Tri α β γ) : Tri β γ α := ⟨t.b0, t.b1, t.c0, t.c1, t.a0, t.a1, by have := t.g; grind⟩
theorem Tri.near {α β γ : Rl} (t : Tri α β γ) : Cn (β + γ) ≤ Cn α ∧ Cn α ≤ Cn (β - γ) := by
  have nb := nrm β
  have nc := nrm γ
  have p := mul_nonneg (Sn_nonneg t.b0 t.b1) (Sn_nonneg t.c0 t.c1)
  have g := t.g
  rw [Cn_add, Cn_sub]
  generalize Cn α = u at *
  generalize Cn β = v at *
  generalize Cn γ = w at *
  generalize Sn β = y at *
  generalize Sn γ = z at *
  have q : (u - v * w) * (u - v * w) ≤ (y * z) * (y * z) := by
    have : (y * z) * (y * z) = (1 - v * v) * (1 - w * w) := by
      have e1 : y * y = 1 - v * v := by grind
      have e2 : z * z = 1 - w * w := by grind
      have : (y * z) * (y * z) = (y * y) * (z * z) := by grind
      rw [this, e1, e2]
    rw [this]
    grind
  have a := le_of_sq p q
  have b := le_of_sq (x := -(u - v * w)) p (by grind)
  constructor <;> grind
theorem Tri.le {α β γ : Rl} (t : Tri α β γ) : α ≤ β + γ := by
  have n := t.near
  apply Classical.byContradiction
  intro c
  have := Cn_lt (x := β + γ) (y := α) (by have := t.b0; have := t.c0; grind) (by grind) t.a1
  grind
theorem Tri.sum {α β γ : Rl} (t : Tri α β γ) : α + β + γ ≤ 21600000 := by
  have n := t.near
  apply Classical.byContradiction
  intro c
  have h := Cn_Tsub (β + γ)
  have := Cn_lt (x := 21600000 - (β + γ)) (y := α) (by have := t.b1; have := t.c1; grind) (by grind) t.a1
  grind
def IsAng (A α β γ : Rl) : Prop := 0 ≤ A ∧ A ≤ 10800000 ∧ Cn A * (Sn β * Sn γ) = Cn α - Cn β * Cn γ
theorem Tri.ang {α β γ : Rl} (t : Tri α β γ) (hb : 0 < Sn β) (hc : 0 < Sn γ) : ∃ A, IsAng A α β γ := by
  have n := t.near
  have p := rmul_pos hb hc
  obtain ⟨i, i0, hi⟩ := exists_inv p
  rw [Cn_add, Cn_sub] at n
  have e : (Cn α - Cn β * Cn γ) * i * (Sn β * Sn γ) = Cn α - Cn β * Cn γ := by
    have : (Cn α - Cn β * Cn γ) * i * (Sn β * Sn γ) = (Cn α - Cn β * Cn γ) * (Sn β * Sn γ * i) := by grind
    rw [this, hi]
    grind
  obtain ⟨A, A0, A1, hA⟩ := acos_ex (c := (Cn α - Cn β * Cn γ) * i) (by
    apply cancel_le p
    grind) (by
    apply cancel_le p
    grind)
  exact ⟨A, A0, A1, by rw [hA, e]⟩
theorem IsAng.half {A α β γ : Rl} (h : IsAng A α β γ) : (1 - Cn A) * (Sn β * Sn γ) = 2 * (Sn (hf (α + β - γ)) * Sn (hf (α + γ - β))) ∧ (1 + Cn A) * (Sn β * Sn γ) = 2 * (Sn (hf (α + β + γ)) * Sn (hf (β + γ - α))) := by
  have e := h.2.2
  have h1 := hf_two (α + β - γ)
  have h2 := hf_two (α + γ - β)
  have h3 := hf_two (α + β + γ)
  have h4 := hf_two (β + γ - α)
  constructor
  · rw [two_ss, show hf (α + β - γ) - hf (α + γ - β) = β - γ by grind, show hf (α + β - γ) + hf (α + γ - β) = α by grind, Cn_sub]
    grind
  · rw [two_ss, show hf (α + β + γ) - hf (β + γ - α) = α by grind, show hf (α + β + γ) + hf (β + γ - α) = β + γ by grind, Cn_add]
    grind
theorem IsAng.sq {A α β γ : Rl} (h : IsAng A α β γ) : Sn (hf A) * Sn (hf A) * (Sn β * Sn γ) = Sn (hf (α + β - γ)) * Sn (hf (α + γ - β)) ∧ Cn (hf A) * Cn (hf A) * (Sn β * Sn γ) = Sn (hf (α + β + γ)) * Sn (hf (β + γ - α)) ∧ 0 ≤ Sn (hf A) ∧ 0 ≤ Cn (hf A) := by
  have k := h.half
  have d := dbl A
  have hh := hf_two A
  have a0 := h.1
  have a1 := h.2.1
  refine ⟨?_, ?_, Sn_nonneg (by grind) (by grind), Cn_nonneg (by grind) (by grind)⟩
  · have := k.1
    rw [d.2.2] at this
    grind
  · have := k.2
    rw [d.2.1] at this
    grind
theorem prods {ka sa kb sb kc sc Sa Sb Sc s0 s1 s2 s3 : Rl} (hka : 0 ≤ ka) (hsa : 0 ≤ sa) (hkb : 0 ≤ kb) (hsb : 0 ≤ sb) (hkc : 0 ≤ kc) (hsc : 0 ≤ sc) (pa : 0 < Sa) (pb : 0 < Sb) (pc : 0 < Sc) (p0 : 0 ≤ s0) (p1 : 0 ≤ s1) (p2 : 0 ≤ s2) (p3 : 0 ≤ s3)
    (a1 : sa * sa * (Sb * Sc) = s3 * s2) (a2 : ka * ka * (Sb * Sc) = s0 * s1) (b1 : sb * sb * (Sc * Sa) = s1 * s3) (b2 : kb * kb * (Sc * Sa) = s0 * s2) (c1 : sc * sc * (Sa * Sb) = s2 * s1) (c2 : kc * kc * (Sa * Sb) = s0 * s3) :
    ka * kb * Sc = s0 * sc ∧ sa * sb * Sc = s3 * sc ∧ ka * sb * Sc = s1 * kc ∧ sa * kb * Sc = s2 * kc := by
  have pab := rmul_pos pa pb
  have nc := Std.le_of_lt pc
  refine ⟨?_, ?_, ?_, ?_⟩
  · apply eq_of_sq (mul_nonneg (mul_nonneg hka hkb) nc) (mul_nonneg p0 hsc)
    apply cancel pab
    have : Sa * Sb * (ka * kb * Sc * (ka * kb * Sc)) = (ka * ka * (Sb * Sc)) * (kb * kb * (Sc * Sa)) := by grind
    rw [this, a2, b2]
    have : Sa * Sb * (s0 * sc * (s0 * sc)) = s0 * s0 * (sc * sc * (Sa * Sb)) := by grind
    rw [this, c1]
    grind
  · apply eq_of_sq (mul_nonneg (mul_nonneg hsa hsb) nc) (mul_nonneg p3 hsc)
    apply cancel pab
    have : Sa * Sb * (sa * sb * Sc * (sa * sb * Sc)) = (sa * sa * (Sb * Sc)) * (sb * sb * (Sc * Sa)) := by grind
    rw [this, a1, b1]
    have : Sa * Sb * (s3 * sc * (s3 * sc)) = s3 * s3 * (sc * sc * (Sa * Sb)) := by grind
    rw [this, c1]
    grind
  · apply eq_of_sq (mul_nonneg (mul_nonneg hka hsb) nc) (mul_nonneg p1 hkc)
    apply cancel pab
    have : Sa * Sb * (ka * sb * Sc * (ka * sb * Sc)) = (ka * ka * (Sb * Sc)) * (sb * sb * (Sc * Sa)) := by grind
    rw [this, a2, b1]
    have : Sa * Sb * (s1 * kc * (s1 * kc)) = s1 * s1 * (kc * kc * (Sa * Sb)) := by grind
    rw [this, c2]
    grind
  · apply eq_of_sq (mul_nonneg (mul_nonneg hsa hkb) nc) (mul_nonneg p2 hkc)
    apply cancel pab
    have : Sa * Sb * (sa * kb * Sc * (sa * kb * Sc)) = (sa * sa * (Sb * Sc)) * (kb * kb * (Sc * Sa)) := by grind
    rw [this, a1, b2]
    have : Sa * Sb * (s2 * kc * (s2 * kc)) = s2 * s2 * (kc * kc * (Sa * Sb)) := by grind
    rw [this, c2]
    grind
noncomputable def qt (x : Rl) : Rl := hf (hf x)
theorem qt_four (x : Rl) : 4 * qt x = x := by
  have a := hf_two x
  have b := hf_two (hf x)
  unfold qt
  grind
noncomputable def Ps (α β γ : Rl) : Rl := Sn (qt (α + β + γ)) * Sn (qt (β + γ - α)) * (Sn (qt (α + γ - β)) * Sn (qt (α + β - γ)))
noncomputable def Pc (α β γ : Rl) : Rl := Cn (qt (α + β + γ)) * Cn (qt (β + γ - α)) * (Cn (qt (α + γ - β)) * Cn (qt (α + β - γ)))
noncomputable def Dd (α β γ : Rl) : Rl := Cn (hf α) * Cn (hf β) * Cn (hf γ)
theorem quarters (α β γ : Rl) : Pc α β γ + Ps α β γ = Dd α β γ ∧ 4 * (Pc α β γ - Ps α β γ) = 1 + Cn α + Cn β + Cn γ := by
  have e0 := qt_four (α + β + γ)
  have e1 := qt_four (β + γ - α)
  have e2 := qt_four (α + γ - β)
  have e3 := qt_four (α + β - γ)
  have ha := hf_two α
  have hb := hf_two β
  have hc := hf_two γ
  have c01 := two_cc (qt (α + β + γ)) (qt (β + γ - α))
  have s01 := two_ss (qt (α + β + γ)) (qt (β + γ - α))
  have c23 := two_cc (qt (α + γ - β)) (qt (α + β - γ))
  have s23 := two_ss (qt (α + γ - β)) (qt (α + β - γ))
  rw [show qt (α + β + γ) - qt (β + γ - α) = hf α by grind, show qt (α + β + γ) + qt (β + γ - α) = hf β + hf γ by grind] at c01 s01
  rw [show qt (α + γ - β) - qt (α + β - γ) = hf γ - hf β by grind, show qt (α + γ - β) + qt (α + β - γ) = hf α by grind] at c23 s23
  rw [Cn_add] at c01 s01
  rw [Cn_sub] at c23 s23
  have da := (dbl α).2.1
  have db := (dbl β).2.1
  have dc := (dbl γ).2.1
  have nb := nrm (hf β)
  have nc := nrm (hf γ)
  unfold Pc Ps Dd
  generalize Cn (qt (α + β + γ)) * Cn (qt (β + γ - α)) = C01 at *
  generalize Sn (qt (α + β + γ)) * Sn (qt (β + γ - α)) = S01 at *
  generalize Cn (qt (α + γ - β)) * Cn (qt (α + β - γ)) = C23 at *
  generalize Sn (qt (α + γ - β)) * Sn (qt (α + β - γ)) = S23 at *
  rw [da, db, dc]
  clear e0 e1 e2 e3 ha hb hc da db dc
  generalize Cn (hf α) = Z at *
  generalize Cn (hf β) = p at *
  generalize Cn (hf γ) = q at *
  generalize Sn (hf β) = r at *
  generalize Sn (hf γ) = s at *
  have f1 : 4 * (C01 * C23) = (Z + (p * q - r * s)) * (q * p + s * r + Z) := by
    have : 4 * (C01 * C23) = (2 * C01) * (2 * C23) := by grind
    rw [this, c01, c23]
  have f2 : 4 * (S01 * S23) = (Z - (p * q - r * s)) * (q * p + s * r - Z) := by
    have : 4 * (S01 * S23) = (2 * S01) * (2 * S23) := by grind
    rw [this, s01, s23]
  have g1 : 4 * (C01 * C23 + S01 * S23) = 4 * (Z * p * q) := by
    have : 4 * (C01 * C23 + S01 * S23) = 4 * (C01 * C23) + 4 * (S01 * S23) := by grind
    rw [this, f1, f2]
    grind
  have g2 : 2 * (4 * (C01 * C23 - S01 * S23)) = 2 * (1 + (2 * (Z * Z) - 1) + (2 * (p * p) - 1) + (2 * (q * q) - 1)) := by
    have : 2 * (4 * (C01 * C23 - S01 * S23)) = 2 * (4 * (C01 * C23)) - 2 * (4 * (S01 * S23)) := by grind
    rw [this, f1, f2]
    have e1 : r * r = 1 - p * p := by grind
    have e2 : s * s = 1 - q * q := by grind
    have : 2 * ((Z + (p * q - r * s)) * (q * p + s * r + Z)) - 2 * ((Z - (p * q - r * s)) * (q * p + s * r - Z)) = 4 * (Z * Z + p * p * (q * q) - (r * r) * (s * s)) := by grind
    rw [this, e1, e2]
    grind
  constructor <;> grind
end Go.Re
namespace Go.Re
theorem pos_of_mul {a b : Rl} (h : 0 < a) (k : 0 ≤ a * b) : 0 ≤ b := by
  apply cancel_le h
  grind
structure Full (α β γ A B C : Rl) : Prop where
  t : Tri α β γ
  sa : 0 < Sn α
  sb : 0 < Sn β
  sc : 0 < Sn γ
  a : IsAng A α β γ
  b : IsAng B β γ α
  c : IsAng C γ α β
theorem Full.half_sums {α β γ A B C : Rl} (f : Full α β γ A B C) :
    (Cn (hf A) * Cn (hf B) * Sn γ = Sn (hf (α + β + γ)) * Sn (hf C) ∧ Sn (hf A) * Sn (hf B) * Sn γ = Sn (hf (α + β - γ)) * Sn (hf C)) ∧ Cn (hf A) * Sn (hf B) * Sn γ = Sn (hf (β + γ - α)) * Cn (hf C) ∧ Sn (hf A) * Cn (hf B) * Sn γ = Sn (hf (α + γ - β)) * Cn (hf C) := by
  have a := f.a.sq
  have b := f.b.sq
  have c := f.c.sq
  have t := f.t
  have l1 := t.le
  have l2 := t.rot.le
  have l3 := t.rot.rot.le
  have ls := t.sum
  have h0 := hf_two (α + β + γ)
  have h1 := hf_two (β + γ - α)
  have h2 := hf_two (α + γ - β)
  have h3 := hf_two (α + β - γ)
  have a0 := t.a0
  have b0 := t.b0
  have c0 := t.c0
  have a1 := t.a1
  have b1 := t.b1
  have c1 := t.c1
  rw [show β + γ - α = β + γ - α from rfl, show β + α - γ = α + β - γ by grind, show β + γ + α = α + β + γ by grind, show γ + α - β = α + γ - β by grind] at b
  rw [show γ + α - β = α + γ - β by grind, show γ + β - α = β + γ - α by grind, show γ + α + β = α + β + γ by grind] at c
  have p0 := Sn_nonneg (x := hf (α + β + γ)) (by grind) (by grind)
  have p1 := Sn_nonneg (x := hf (β + γ - α)) (by grind) (by grind)
  have p2 := Sn_nonneg (x := hf (α + γ - β)) (by grind) (by grind)
  have p3 := Sn_nonneg (x := hf (α + β - γ)) (by grind) (by grind)
  have p := prods a.2.2.2 a.2.2.1 b.2.2.2 b.2.2.1 c.2.2.2 c.2.2.1 f.sa f.sb f.sc p0 p1 p2 p3 a.1 a.2.1 b.1 b.2.1 c.1 (by rw [c.2.1])
  exact ⟨⟨p.1, p.2.1⟩, p.2.2.1, p.2.2.2⟩
theorem Full.excess {α β γ A B C : Rl} (f : Full α β γ A B C) : 10800000 ≤ A + B + C ∧ Cn (hf (A + B + C - 10800000)) * Dd α β γ = Pc α β γ - Ps α β γ := by
  obtain ⟨⟨e1, e2⟩, e3, e4⟩ := f.half_sums
  have hA := hf_two A
  have hB := hf_two B
  have hC := hf_two C
  have ha := hf_two α
  have hb := hf_two β
  have hc := hf_two γ
  have h0 := hf_two (α + β + γ)
  have h1 := hf_two (β + γ - α)
  have h2 := hf_two (α + γ - β)
  have h3 := hf_two (α + β - γ)
  have hE := hf_two (A + B + C - 10800000)
  have t := f.t
  have A0 := f.a.1
  have A1 := f.a.2.1
  have B0 := f.b.1
  have B1 := f.b.2.1
  have C0 := f.c.1
  have C1 := f.c.2.1
  have eE : hf (A + B + C - 10800000) + 5400000 = (hf A + hf B) + hf C := by grind
  have cE : Sn ((hf A + hf B) + hf C) = Cn (hf (A + B + C - 10800000)) := by rw [← eE, Sn_addQ]
  have sE : Cn ((hf A + hf B) + hf C) = - Sn (hf (A + B + C - 10800000)) := by rw [← eE, Cn_addQ]
  rw [Sn_add, Sn_add, Cn_add] at cE
  rw [Cn_add, Sn_add, Cn_add] at sE
  have d1 : Sn (hf (β + γ - α)) + Sn (hf (α + γ - β)) = 2 * (Sn (hf γ) * Cn (hf α - hf β)) := by
    have x1 := Sn_add (hf γ) (hf α - hf β)
    have x2 := Sn_sub (hf γ) (hf α - hf β)
    rw [show hf (β + γ - α) = hf γ - (hf α - hf β) by grind, show hf (α + γ - β) = hf γ + (hf α - hf β) by grind]
    grind
  have d2 : Sn (hf (α + β + γ)) - Sn (hf (α + β - γ)) = 2 * (Sn (hf γ) * Cn (hf α + hf β)) := by
    have x1 := Sn_add (hf α + hf β) (hf γ)
    have x2 := Sn_sub (hf α + hf β) (hf γ)
    rw [show hf (α + β + γ) = hf α + hf β + hf γ by grind, show hf (α + β - γ) = hf α + hf β - hf γ by grind]
    grind
  rw [Cn_sub] at d1
  rw [Cn_add] at d2
  have kC := f.c.2.2
  have dC := dbl C
  have da := dbl α
  have db := dbl β
  have dc := dbl γ
  have nC := nrm (hf C)
  have sgn : 0 < Sn (hf γ) := Sn_pos (by have := t.c0; have := f.sc; by_cases z : γ = 0
                                         · rw [z, Sn_zero] at this; grind
                                         · grind) (by have := t.c1; grind)
  have sga : 0 ≤ Sn (hf α) := Sn_nonneg (by have := t.a0; grind) (by have := t.a1; grind)
  have sgb : 0 ≤ Sn (hf β) := Sn_nonneg (by have := t.b0; grind) (by have := t.b1; grind)
  have cgC := Cn_nonneg (x := hf C) (by grind) (by grind)
  have sgC := Sn_nonneg (x := hf C) (by grind) (by grind)
  have q := quarters α β γ
  have sc := f.sc
  have sg : Sn γ * Sn (hf (A + B + C - 10800000)) = 4 * (Sn (hf α) * Sn (hf β) * Sn (hf γ)) * (Cn (hf C) * Sn (hf C)) := by
    have : Sn γ * Sn (hf (A + B + C - 10800000)) = -((Cn (hf A) * Cn (hf B) * Sn γ - Sn (hf A) * Sn (hf B) * Sn γ) * Cn (hf C) - (Sn (hf A) * Cn (hf B) * Sn γ + Cn (hf A) * Sn (hf B) * Sn γ) * Sn (hf C)) := by
      have e : Sn (hf (A + B + C - 10800000)) = -((Cn (hf A) * Cn (hf B) - Sn (hf A) * Sn (hf B)) * Cn (hf C) - (Sn (hf A) * Cn (hf B) + Cn (hf A) * Sn (hf B)) * Sn (hf C)) := by
        rw [sE]
        grind
      rw [e]
      grind
    rw [this, e1, e2, e3, e4]
    have : -((Sn (hf (α + β + γ)) * Sn (hf C) - Sn (hf (α + β - γ)) * Sn (hf C)) * Cn (hf C) - (Sn (hf (α + γ - β)) * Cn (hf C) + Sn (hf (β + γ - α)) * Cn (hf C)) * Sn (hf C)) = ((Sn (hf (β + γ - α)) + Sn (hf (α + γ - β))) - (Sn (hf (α + β + γ)) - Sn (hf (α + β - γ)))) * (Cn (hf C) * Sn (hf C)) := by grind
    rw [this, d1, d2]
    grind
  have cg : Sn γ * Cn (hf (A + B + C - 10800000)) = 2 * Sn (hf γ) * (Cn (hf α) * Cn (hf β) + Sn (hf α) * Sn (hf β) * Cn C) := by
    have : Sn γ * Cn (hf (A + B + C - 10800000)) = (Sn (hf A) * Cn (hf B) * Sn γ + Cn (hf A) * Sn (hf B) * Sn γ) * Cn (hf C) + (Cn (hf A) * Cn (hf B) * Sn γ - Sn (hf A) * Sn (hf B) * Sn γ) * Sn (hf C) := by
      rw [← cE]
      grind
    rw [this, e1, e2, e3, e4]
    have : (Sn (hf (α + γ - β)) * Cn (hf C) + Sn (hf (β + γ - α)) * Cn (hf C)) * Cn (hf C) + (Sn (hf (α + β + γ)) * Sn (hf C) - Sn (hf (α + β - γ)) * Sn (hf C)) * Sn (hf C) = (Sn (hf (β + γ - α)) + Sn (hf (α + γ - β))) * (Cn (hf C) * Cn (hf C)) + (Sn (hf (α + β + γ)) - Sn (hf (α + β - γ))) * (Sn (hf C) * Sn (hf C)) := by grind
    rw [this, d1, d2]
    have i1 : 2 * (Cn (hf C) * Cn (hf C)) = 1 + Cn C := by grind
    have i2 : 2 * (Sn (hf C) * Sn (hf C)) = 1 - Cn C := by grind
    have : 2 * (Sn (hf γ) * (Cn (hf α) * Cn (hf β) + Sn (hf α) * Sn (hf β))) * (Cn (hf C) * Cn (hf C)) + 2 * (Sn (hf γ) * (Cn (hf α) * Cn (hf β) - Sn (hf α) * Sn (hf β))) * (Sn (hf C) * Sn (hf C)) = Sn (hf γ) * (Cn (hf α) * Cn (hf β)) * (2 * (Cn (hf C) * Cn (hf C)) + 2 * (Sn (hf C) * Sn (hf C))) + Sn (hf γ) * (Sn (hf α) * Sn (hf β)) * (2 * (Cn (hf C) * Cn (hf C)) - 2 * (Sn (hf C) * Sn (hf C))) := by grind
    rw [this, i1, i2]
    grind
  constructor
  · apply Classical.byContradiction
    intro c
    have neg := Sn_pos (x := -hf (A + B + C - 10800000)) (by grind) (by grind)
    rw [Sn_neg] at neg
    have m1 := rmul_pos sc neg
    have m2 := mul_nonneg (mul_nonneg (mul_nonneg sga sgb) (Std.le_of_lt sgn)) (mul_nonneg cgC sgC)
    grind
  · apply cancel (a := 4 * Sn γ) (by grind)
    have l : 4 * Sn γ * (Cn (hf (A + B + C - 10800000)) * Dd α β γ) = 4 * (Sn γ * Cn (hf (A + B + C - 10800000))) * Dd α β γ := by grind
    rw [l, cg]
    have r : 4 * Sn γ * (Pc α β γ - Ps α β γ) = Sn γ * (4 * (Pc α β γ - Ps α β γ)) := by grind
    rw [r, q.2]
    unfold Dd
    have x : 4 * (2 * Sn (hf γ) * (Cn (hf α) * Cn (hf β) + Sn (hf α) * Sn (hf β) * Cn C)) * (Cn (hf α) * Cn (hf β) * Cn (hf γ)) = (2 * (Sn (hf γ) * Cn (hf γ))) * ((2 * (Cn (hf α) * Cn (hf α))) * (2 * (Cn (hf β) * Cn (hf β))) + Cn C * ((2 * (Sn (hf α) * Cn (hf α))) * (2 * (Sn (hf β) * Cn (hf β))))) := by grind
    rw [x, ← da.1, ← db.1, ← dc.1, kC]
    have y1 : 2 * (Cn (hf α) * Cn (hf α)) = 1 + Cn α := by grind
    have y2 : 2 * (Cn (hf β) * Cn (hf β)) = 1 + Cn β := by grind
    rw [y1, y2]
    grind
theorem Full.quarter {α β γ A B C : Rl} (f : Full α β γ A B C) : (0 ≤ qt (A + B + C - 10800000) ∧ qt (A + B + C - 10800000) ≤ 5400000) ∧ 0 < Dd α β γ ∧ Cn (qt (A + B + C - 10800000)) * Cn (qt (A + B + C - 10800000)) * Dd α β γ = Pc α β γ ∧ Sn (qt (A + B + C - 10800000)) * Sn (qt (A + B + C - 10800000)) * Dd α β γ = Ps α β γ := by
  have e := f.excess
  have q := quarters α β γ
  have h4 := qt_four (A + B + C - 10800000)
  have d := dbl (hf (A + B + C - 10800000))
  have hq : hf (hf (A + B + C - 10800000)) = qt (A + B + C - 10800000) := rfl
  rw [hq] at d
  have A1 := f.a.2.1
  have B1 := f.b.2.1
  have C1 := f.c.2.1
  have pos : ∀ x : Rl, 0 ≤ x → x ≤ 10800000 → 0 < Sn x → 0 < Cn (hf x) := fun x x0 x1 hs => by
    have hx := hf_two x
    refine Cn_pos (by grind) ?_
    by_cases z : x = 10800000
    · rw [z, Sn_H] at hs
      grind
    · grind
  have t := f.t
  have dp : 0 < Dd α β γ := rmul_pos (rmul_pos (pos α t.a0 t.a1 f.sa) (pos β t.b0 t.b1 f.sb)) (pos γ t.c0 t.c1 f.sc)
  refine ⟨⟨by grind, by grind⟩, dp, ?_, ?_⟩
  · have := e.2
    rw [d.2.1] at this
    grind
  · have := e.2
    rw [d.2.2] at this
    grind
noncomputable def dot (p l q m : Rl) : Rl := Cn p * Cn q * Cn (m - l) + Sn p * Sn q
noncomputable def nor (p l q m : Rl) : Rl := Cn p * Sn q - Sn p * Cn q * Cn (m - l)
noncomputable def eas (p l q m : Rl) : Rl := Sn (m - l) * Cn q
theorem dot_comm (p l q m : Rl) : dot p l q m = dot q m p l := by
  unfold dot
  have := Cn_neg (m - l)
  rw [show -(m - l) = l - m by grind] at this
  rw [this]
  grind
theorem course_len (p l q m : Rl) : nor p l q m * nor p l q m + eas p l q m * eas p l q m = 1 - dot p l q m * dot p l q m := by
  unfold nor eas dot
  have a := nrm p
  have b := nrm q
  have c := nrm (m - l)
  generalize Cn p = x at *
  generalize Sn p = y at *
  generalize Cn q = z at *
  generalize Sn q = w at *
  generalize Cn (m - l) = u at *
  generalize Sn (m - l) = v at *
  have e1 : y * y = 1 - x * x := by grind
  have e2 : w * w = 1 - z * z := by grind
  have e3 : v * v = 1 - u * u := by grind
  have l1 : (x * w - y * z * u) * (x * w - y * z * u) + v * z * (v * z) = x * x * (w * w) - 2 * (x * w * (y * z * u)) + (y * y) * (z * z) * (u * u) + (v * v) * (z * z) := by grind
  have l2 : 1 - (x * z * u + y * w) * (x * z * u + y * w) = 1 - x * x * (z * z) * (u * u) - 2 * (x * z * u * (y * w)) - (y * y) * (w * w) := by grind
  rw [l1, l2, e1, e2, e3]
  grind
theorem course_dot (p l q m r n : Rl) : nor p l q m * nor p l r n + eas p l q m * eas p l r n = dot q m r n - dot p l q m * dot p l r n := by
  unfold nor eas dot
  have a := nrm p
  have e : Cn (n - m) = Cn (n - l) * Cn (m - l) + Sn (n - l) * Sn (m - l) := by
    rw [← Cn_sub]
    congr 1
    grind
  rw [e]
  generalize Cn p = x at *
  generalize Sn p = y at *
  generalize Cn q = z at *
  generalize Sn q = w at *
  generalize Cn r = z' at *
  generalize Sn r = w' at *
  generalize Cn (m - l) = u at *
  generalize Sn (m - l) = v at *
  generalize Cn (n - l) = u' at *
  generalize Sn (n - l) = v' at *
  have e1 : y * y = 1 - x * x := by grind
  have l1 : (x * w - y * z * u) * (x * w' - y * z' * u') + v * z * (v' * z') = x * x * (w * w') - x * y * (w * z' * u') - x * y * (z * u * w') + (y * y) * (z * u * (z' * u')) + v * z * (v' * z') := by grind
  have l2 : z * z' * (u' * u + v' * v) + w * w' - (x * z * u + y * w) * (x * z' * u' + y * w') = z * z' * (u' * u + v' * v) + w * w' - x * x * (z * u * (z' * u')) - x * y * (z * u * w') - x * y * (w * z' * u') - (y * y) * (w * w') := by grind
  rw [l1, l2, e1]
  grind
theorem tri_of {p l q m r n α β γ : Rl} (a0 : 0 ≤ α) (a1 : α ≤ 10800000) (ha : Cn α = dot q m r n) (b0 : 0 ≤ β) (b1 : β ≤ 10800000) (hb : Cn β = dot r n p l) (c0 : 0 ≤ γ) (c1 : γ ≤ 10800000) (hc : Cn γ = dot p l q m) : Tri α β γ := by
  refine ⟨a0, a1, b0, b1, c0, c1, ?_⟩
  have k := course_dot p l q m r n
  have l1 := course_len p l q m
  have l2 := course_len p l r n
  rw [dot_comm p l r n, ← hb] at k l2
  rw [← hc] at k l1
  rw [← ha] at k
  have s := sq_pos (nor p l q m * eas p l r n - eas p l q m * nor p l r n)
  generalize nor p l q m = a at *
  generalize eas p l q m = b at *
  generalize nor p l r n = c at *
  generalize eas p l r n = d at *
  generalize Cn α = u at *
  generalize Cn β = v at *
  generalize Cn γ = w at *
  have e : (a * d - b * c) * (a * d - b * c) = (a * a + b * b) * (c * c + d * d) - (a * c + b * d) * (a * c + b * d) := by grind
  rw [e, l1, l2, k] at s
  grind
theorem course_ang {p l q m r n α β γ A θ φ ρ σ : Rl} (ha : Cn α = dot q m r n) (hb : Cn β = dot r n p l) (hc : Cn γ = dot p l q m) (sb : 0 < Sn β) (sc : 0 < Sn γ) (hA : IsAng A α β γ)
    (r0 : 0 < ρ) (s0 : 0 < σ) (t1 : nor p l q m = ρ * Cn θ) (t2 : eas p l q m = ρ * Sn θ) (u1 : nor p l r n = σ * Cn φ) (u2 : eas p l r n = σ * Sn φ) : Cn (θ - φ) = Cn A := by
  have k := course_dot p l q m r n
  have l1 := course_len p l q m
  have l2 := course_len p l r n
  rw [dot_comm p l r n, ← hb] at k l2
  rw [← hc] at k l1
  rw [← ha, t1, t2, u1, u2] at k
  rw [t1, t2] at l1
  rw [u1, u2] at l2
  have nθ := nrm θ
  have nφ := nrm φ
  have nb := nrm β
  have nc := nrm γ
  have eρ : ρ = Sn γ := by
    apply eq_of_sq (Std.le_of_lt r0) (Std.le_of_lt sc)
    have : ρ * ρ = ρ * ρ * (Cn θ * Cn θ + Sn θ * Sn θ) := by rw [nθ]; grind
    grind
  have eσ : σ = Sn β := by
    apply eq_of_sq (Std.le_of_lt s0) (Std.le_of_lt sb)
    have : σ * σ = σ * σ * (Cn φ * Cn φ + Sn φ * Sn φ) := by rw [nφ]; grind
    grind
  have e := hA.2.2
  rw [Cn_sub]
  apply cancel (rmul_pos sb sc)
  rw [show Sn β * Sn γ * Cn A = Cn A * (Sn β * Sn γ) by grind, e]
  rw [eρ, eσ] at k
  grind
end Go.Re
