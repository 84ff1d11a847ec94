/- A greater angle is nearer: the plain law. -/
import Derived.Test.YtofnffcdbbiohaaDoorByC
namespace Go.Proofs.YtofnffcdbbiohaaDoor
open Go Go.Abs Go.RowKit
set_option linter.unusedVariables false
set_option linter.unusedSimpArgs false
theorem sn_spot : sinP 1000 = 312338 := by decide +kernel
/-- An angle of at least 1000 units. -/
structure NearA (h a b : Int) : Prop where
  h0 : 1 ≤ h
  h1 : h ≤ 1000000
  a0 : 1000 ≤ a
  ab : a ≤ b
  b1 : b ≤ 5400000
/-- What the ends are, and their bounds. -/
structure NearV (c0 c1 s0 s1 lo hi h : Int) : Prop where
  pc0 : 0 ≤ c0
  pc01 : c0 ≤ c1
  pc1 : c1 ≤ 1073741824
  ps0 : 312338 ≤ s0
  ps01 : s0 ≤ s1
  ps1 : s1 ≤ 1073741824
  plo : lo = c0 * (10 * h) / s1
  phi : hi = -(-(c1 * (10 * h)) / s0)
  plo0 : 0 ≤ lo
  plh : lo ≤ hi
  phi1 : hi ≤ 40000000000
theorem near_v {c0 c1 s0 s1 lo hi h : Int} (h0 : 1 ≤ h) (h1 : h ≤ 1000000) (a : 0 ≤ c0) (b : c0 ≤ c1) (c : c1 ≤ 1073741824) (d : 312338 ≤ s0) (e : s0 ≤ s1) (f : s1 ≤ 1073741824) (l : lo = c0 * (10 * h) / s1) (g : hi = -(-(c1 * (10 * h)) / s0)) : NearV c0 c1 s0 s1 lo hi h := by
  have n0 := Int.mul_nonneg a (show 0 ≤ 10 * h by omega)
  have m0 := Int.mul_le_mul_of_nonneg_right b (show 0 ≤ 10 * h by omega)
  have m1 := Int.mul_le_mul c (show 10 * h ≤ 10000000 by omega) (by omega) (by omega)
  have lo0 : 0 ≤ lo := by rw [l]; exact Int.ediv_nonneg n0 (by omega)
  have hi1 : hi ≤ 40000000000 := by rw [g]; exact (ce_iff (by omega)).mpr (by omega)
  have x1 : lo * s1 ≤ c0 * (10 * h) := (fl_iff (by omega)).mp (by omega)
  have x3 : c1 * (10 * h) ≤ hi * s0 := (ce_iff (by omega)).mp (by omega)
  have lh : lo ≤ hi := by
    apply Int.not_lt.mp
    intro q
    have p1 := Int.mul_le_mul_of_nonneg_right (show hi ≤ lo - 1 by omega) (show 0 ≤ s0 by omega)
    have p2 := Int.mul_le_mul_of_nonneg_left e lo0
    have p3 : (lo - 1) * s0 = lo * s0 - s0 := by grind
    omega
  exact ⟨a, b, c, d, e, f, l, g, lo0, lh, hi1⟩
theorem near_all {h a b : Int} (n : NearA h a b) : NearV (cL a b) (cH a b) (encL a b) (encH a b) (qL (cL a b) (cH a b) (encL a b) (encH a b) (10 * h)) (qH (cL a b) (cH a b) (encL a b) (encH a b) (10 * h)) h ∧ cL a b = sinP (5400000 - b) ∧ cH a b = upI (5400000 - a) ∧ encL a b = sinP a ∧ encH a b = upI b := by
  obtain ⟨h0, h1, a0, ab, b1⟩ := n
  obtain ⟨x, y, z, w⟩ := box1 (x := a) (y := b) (by omega) ab b1
  refine ⟨?_, x, y, z, w⟩
  rw [x, y, z, w]
  have m0 := sin_le (p := 1000) (q := a) (by omega) (by omega) (by omega)
  have m1 := sin_le (p := a) (q := b) (by omega) ab b1
  have m2 := sin_le (p := 5400000 - b) (q := 5400000 - a) (by omega) (by omega) (by omega)
  have e := sn_spot
  have r1 := sinP_range (p := 5400000 - b) (by omega) (by omega)
  have r2 := sinP_range (p := 5400000 - a) (by omega) (by omega)
  have r3 := sinP_range (p := b) (by omega) (by omega)
  have g1 := up_ge (5400000 - a)
  have g2 := up_ge b
  have q := q_pos (a := sinP (5400000 - b)) (b := upI (5400000 - a)) (c := sinP a) (d := upI b) (n := 10 * h) (by omega) (by omega) (by omega) (by omega) (by omega)
  exact near_v h0 h1 (by omega) (by omega) (by omega) (by omega) (by omega) (by omega) q.1 q.2
theorem near_ok {h a b : Int} (n : NearA h a b) : ArcV a b ∧ InR h a b ∧ okBy h a b := by
  obtain ⟨v, _⟩ := near_all n
  obtain ⟨h0, h1, a0, ab, b1⟩ := n
  refine ⟨⟨by omega, ab, by omega⟩, ⟨h0, h1, by omega, b1⟩, ?_⟩
  have := v.plo0
  have := v.phi1
  have := v.plh
  exact ⟨by omega, by omega⟩
theorem by_val {h a b : Int} (n : NearA h a b) : byL h a b = qL (cL a b) (cH a b) (encL a b) (encH a b) (10 * h) / 1852 ∧ byH h a b = -(-qH (cL a b) (cH a b) (encL a b) (encH a b) (10 * h) / 1852) ∧ byE h a b = 0 := by
  obtain ⟨o1, o2, o3⟩ := near_ok n
  exact ⟨gate_t ⟨o1, o2, o3⟩, gate_t ⟨o1, o2, o3⟩, (pick_t o1).trans ((pick_t o2).trans (pick_t o3))⟩
theorem by_bounds {h a b : Int} (n : NearA h a b) : byE h a b = 0 ∧ 0 ≤ byL h a b ∧ byL h a b ≤ byH h a b ∧ byH h a b ≤ 1073741824 := by
  obtain ⟨v, _⟩ := near_all n
  obtain ⟨e1, e2, e3⟩ := by_val n
  have := v.plo0
  have := v.phi1
  have := v.plh
  rw [e1, e2, e3]
  omega
/-- A smaller object is nearer. -/
theorem by_less {h k a b : Int} (n : NearA h a b) (k0 : 1 ≤ k) (kh : k ≤ h) : byL k a b ≤ byL h a b ∧ byH k a b ≤ byH h a b := by
  have m : NearA k a b := ⟨k0, Int.le_trans kh n.h1, n.a0, n.ab, n.b1⟩
  obtain ⟨v, _⟩ := near_all n
  obtain ⟨w, _⟩ := near_all m
  obtain ⟨e1, e2, _⟩ := by_val n
  obtain ⟨f1, f2, _⟩ := by_val m
  have c0 := v.pc0
  have c1 := v.pc01
  have s0 := v.ps0
  have s1 := v.ps01
  have p0 := Int.mul_le_mul_of_nonneg_left (show 10 * k ≤ 10 * h by omega) c0
  have p1 := Int.mul_le_mul_of_nonneg_left (show 10 * k ≤ 10 * h by omega) (Int.le_trans c0 c1)
  have d0 := Int.ediv_le_ediv (show 0 < encH a b by omega) p0
  have d1 := Int.ediv_le_ediv (show 0 < encL a b by omega) (Int.neg_le_neg p1)
  rw [e1, e2, f1, f2]
  have l1 := v.plo; have l2 := v.phi; have l3 := w.plo; have l4 := w.phi
  omega
/-- A greater angle is nearer. -/
theorem by_wider {h a b : Int} (n : NearA h a b) : byL h a b ≤ byL h a a ∧ byH h a a ≤ byH h a b := by
  have m : NearA h a a := ⟨n.h0, n.h1, n.a0, Int.le_refl _, Int.le_trans n.ab n.b1⟩
  obtain ⟨v, v1, v2, v3, v4⟩ := near_all n
  obtain ⟨w, w1, w2, w3, w4⟩ := near_all m
  obtain ⟨e1, e2, _⟩ := by_val n
  obtain ⟨f1, f2, _⟩ := by_val m
  have h0 := n.h0; have a0 := n.a0; have ab := n.ab; have b1 := n.b1
  have t1 := (sin_le (p := 5400000 - b) (q := 5400000 - a) (by omega) (by omega) (by omega)).1
  have t2 := (sin_le (p := a) (q := b) (by omega) ab b1).2
  have c0 := v.pc0
  have c0' := w.pc0
  have s0 := v.ps0
  have s1 := v.ps01
  have s1' := w.ps01
  have s0' := w.ps0
  have p0 := Int.mul_le_mul_of_nonneg_right (show cL a b ≤ cL a a by omega) (show 0 ≤ 10 * h by omega)
  have p1 := Int.mul_nonneg c0' (show 0 ≤ 10 * h by omega)
  have d0 := ediv_less p0 p1 (show 0 < encH a a by omega) (show encH a a ≤ encH a b by omega)
  rw [e1, e2, f1, f2]
  have E1 : cH a b = cH a a := by omega
  have E2 : encL a b = encL a a := by omega
  have l1 := v.plo; have l3 := w.plo; have l4 := w.phi
  have l2 := v.phi.trans (show -(-(cH a b * (10 * h)) / encL a b) = -(-(cH a a * (10 * h)) / encL a a) by rw [E1, E2])
  omega
/-- At the distance the tangent is the height. -/
theorem by_tan {h x : Int} (n : NearA h x x) : 1852 * byL h x x ≤ 40000000000 ∧ 0 ≤ 1852 * byL h x x * encL x x ∧ 1852 * byL h x x * encL x x ≤ 10 * h * cH x x ∧ 10 * h * cH x x ≤ 10737418240000000 ∧ 1852 * byH h x x ≤ 40000002000 ∧ 10 * h * cL x x ≤ 1852 * byH h x x * encH x x ∧ 0 ≤ 10 * h * cL x x ∧ 1852 * byH h x x * encH x x ≤ 20000000000000000 := by
  obtain ⟨v, v1, v2, v3, v4⟩ := near_all n
  obtain ⟨e1, e2, _⟩ := by_val n
  obtain ⟨c00, c01, c1, s0, s01, s1, lo, hi, lo0, lh, hi1⟩ := v
  have h0 := n.h0; have h1 := n.h1
  have up := up_ge x
  generalize qL (cL x x) (cH x x) (encL x x) (encH x x) (10 * h) = L at *
  generalize qH (cL x x) (cH x x) (encL x x) (encH x x) (10 * h) = H at *
  generalize cL x x = C at *
  generalize cH x x = D at *
  generalize encL x x = S at *
  generalize encH x x = T at *
  generalize byL h x x = P at *
  generalize byH h x x = Q at *
  have x1 : L * T ≤ C * (10 * h) := (fl_iff (by omega)).mp (by omega)
  have x3 : D * (10 * h) ≤ H * S := (ce_iff (by omega)).mp (by omega)
  have x4 : (H - 1) * S < D * (10 * h) := by
    apply Int.not_le.mp
    intro q
    have := (ce_iff (show 0 < S by omega)).mpr q
    omega
  have m0 := Int.mul_le_mul_of_nonneg_right c01 (show 0 ≤ 10 * h by omega)
  have m1 := Int.mul_le_mul c1 (show 10 * h ≤ 10000000 by omega) (by omega) (by omega)
  have m2 := Int.mul_nonneg c00 (show 0 ≤ 10 * h by omega)
  have p1 : 1852 * P ≤ L := by omega
  have p2 : H ≤ 1852 * Q := by omega
  have p3 : 1852 * Q ≤ H + 1851 := by omega
  have k1 := Int.mul_le_mul_of_nonneg_right p1 (show 0 ≤ S by omega)
  have k2 := Int.mul_le_mul_of_nonneg_left s01 lo0
  have k3 := Int.mul_le_mul p2 s01 (show 0 ≤ S by omega) (by omega)
  have k4 := Int.mul_le_mul p3 (show T ≤ S + 1 by omega) (by omega) (by omega)
  have k5 : (H + 1851) * (S + 1) = (H - 1) * S + 1852 * S + H + 1851 := by grind
  have k6 : 10 * h * D = D * (10 * h) := Int.mul_comm _ _
  have k7 : 10 * h * C = C * (10 * h) := Int.mul_comm _ _
  have k8 := Int.mul_nonneg (show 0 ≤ 1852 * P by omega) (show 0 ≤ S by omega)
  refine ⟨by omega, k8, by omega, by omega, by omega, by omega, by omega, by omega⟩
end Go.Proofs.YtofnffcdbbiohaaDoor
