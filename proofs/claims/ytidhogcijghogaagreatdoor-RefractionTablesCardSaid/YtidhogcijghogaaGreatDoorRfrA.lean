/- Refraction: the plain law. The refraction of an integer becomes less with it, and its arc is at most 7 wide. -/
import Derived.Test.YtidhogcijghogaaGreatDoorMrgF
namespace Go.Proofs.YtidhogcijghogaaGreatDoor
open Go Go.Abs Go.RowKit Go.Sine
set_option linter.unusedVariables false
set_option linter.unusedSimpArgs false
/-- The bent altitude. -/
def bq (u : Int) : Int := 26316000000 / (u + 264000)
def cq (u : Int) : Int := -(-26316000000 / (u + 264000))
def bL (u : Int) : Int := u + bq u
def bH (u : Int) : Int := u + cq u
/-- The refraction of an integer. -/
def oneL (u : Int) : Int := qL (cL (bL u) (bH u)) (cH (bL u) (bH u)) (encL (bL u) (bH u)) (encH (bL u) (bH u)) 1000
def oneH (u : Int) : Int := qH (cL (bL u) (bH u)) (cH (bL u) (bH u)) (encL (bL u) (bH u)) (encH (bL u) (bH u)) 1000
def RU (u : Int) : Prop := -60000 ≤ u ∧ u ≤ 5400000
instance (u : Int) : Decidable (RU u) := by unfold RU; infer_instance
theorem b_range {u : Int} (h : RU u) : 4646 ≤ bq u ∧ bq u ≤ cq u ∧ cq u ≤ bq u + 1 ∧ cq u ≤ 129000 ∧ 69000 ≤ bL u ∧ bL u ≤ bH u ∧ bH u ≤ bL u + 1 ∧ bH u ≤ 5404647 := by
  unfold RU at h
  have hm : 0 < u + 264000 := by omega
  have k1 : 4646 ≤ bq u := (fl_iff hm).mpr (by omega)
  have k2 : bq u ≤ cq u := by
    have a := (fl_iff (A := 26316000000) hm).mp (Int.le_refl _)
    have b := (ce_iff (A := 26316000000) hm).mp (Int.le_refl _)
    exact Int.le_of_mul_le_mul_right (Int.le_trans a b) hm
  have k3 : cq u ≤ bq u + 1 := (ce_iff hm).mpr (by
    apply Int.le_of_lt
    apply Int.not_le.mp
    intro k
    have := (fl_iff (A := 26316000000) hm).mpr k
    unfold bq at this
    omega)
  have k4 : cq u ≤ 129000 := (ce_iff hm).mpr (by omega)
  have k5 : 69000 - u ≤ bq u := (fl_iff hm).mpr (by
    have s := Int.mul_nonneg (show 0 ≤ u + 60000 by omega) (show 0 ≤ u + 135000 by omega)
    grind)
  have k6 : cq u ≤ 5404647 - u := (ce_iff hm).mpr (by
    have s := Int.mul_nonneg (show 0 ≤ 5400000 - u by omega) (show 0 ≤ u + 259353 by omega)
    grind)
  unfold bL bH
  omega
theorem b_mono {u v : Int} (hu : RU u) (hv : RU v) (h : u ≤ v) : bL u ≤ bL v ∧ bH u ≤ bH v := by
  obtain ⟨r1, r2, r3, r4, _⟩ := b_range hu
  obtain ⟨s1, s2, s3, s4, _⟩ := b_range hv
  unfold RU at hu hv
  have hm : 0 < u + 264000 := by omega
  have hn : 0 < v + 264000 := by omega
  have k1 : bq u - (v - u) ≤ bq v := (fl_iff hn).mpr (by
    have a := (fl_iff (A := 26316000000) hm).mp (Int.le_refl _)
    have p := Int.mul_nonneg (show 0 ≤ v - u by omega) (show 0 ≤ v + 264000 - bq u by omega)
    unfold bq at *
    generalize 26316000000 / (u + 264000) = q at *
    grind)
  have k2 : cq u ≤ cq v + (v - u) := (ce_iff hm).mpr (by
    have b := (ce_iff (A := 26316000000) hn).mp (Int.le_refl _)
    have p := Int.mul_nonneg (show 0 ≤ v - u by omega) (show 0 ≤ u + 264000 - cq v by omega)
    unfold cq at *
    generalize -(-26316000000 / (v + 264000)) = q at *
    grind)
  unfold bL bH
  omega
theorem sp_rfr : sinP 69000 = 21549932 ∧ upI 4647 = 1451439 ∧ 1073740000 ≤ sinP 5395353 := by decide +kernel
/-- The refraction of an integer: whose bent altitude is at most a quarter, or more. -/
theorem one1 {u : Int} (h : RU u) (k : bH u ≤ 5400000) : oneL u = sinP (5400000 - bH u) * 1000 / upI (bH u) ∧ oneH u = -(-(upI (5400000 - bL u) * 1000) / sinP (bL u)) ∧ 0 ≤ sinP (5400000 - bH u) ∧ sinP (5400000 - bH u) ≤ upI (5400000 - bL u) ∧ 21549932 ≤ sinP (bL u) ∧ sinP (bL u) ≤ upI (bH u) := by
  obtain ⟨r1, r2, r3, r4, r5, r6, r7, r8⟩ := b_range h
  obtain ⟨a, b, c, d⟩ := box1 (x := bL u) (y := bH u) (by omega) r6 k
  have m0 := sin_le (p := 69000) (q := bL u) (by omega) r5 (by omega)
  have m1 := sin_le (p := bL u) (q := bH u) (by omega) r6 (by omega)
  have m2 := sin_le (p := 5400000 - bH u) (q := 5400000 - bL u) (by omega) (by omega) (by omega)
  have m3 := sin_le (p := 0) (q := 5400000 - bH u) (by omega) (by omega) (by omega)
  have e0 := sinP_spots.1.1
  have e1 := sp_rfr.1
  have g1 := up_ge (bH u)
  have g2 := up_ge (5400000 - bL u)
  have q := q_pos (a := sinP (5400000 - bH u)) (b := upI (5400000 - bL u)) (c := sinP (bL u)) (d := upI (bH u)) (n := 1000) (by omega) (by omega) (by omega) (by omega) (by omega)
  unfold oneL oneH
  rw [a, b, c, d]
  exact ⟨q.1, q.2, by omega, by omega, by omega, by omega⟩
theorem one2 {u : Int} (h : RU u) (k : 5400000 ≤ bL u) : oneL u = -upI (bH u - 5400000) * 1000 / sinP (10800000 - bH u) ∧ oneH u = -(-(-sinP (bL u - 5400000) * 1000) / upI (10800000 - bL u)) ∧ 0 ≤ sinP (bL u - 5400000) ∧ sinP (bL u - 5400000) ≤ upI (bH u - 5400000) ∧ upI (bH u - 5400000) ≤ 1451439 ∧ 1073740000 ≤ sinP (10800000 - bH u) ∧ sinP (10800000 - bH u) ≤ upI (10800000 - bL u) := by
  obtain ⟨r1, r2, r3, r4, r5, r6, r7, r8⟩ := b_range h
  obtain ⟨a, b, c, d⟩ := box2 (x := bL u) (y := bH u) (by omega) r6 (by omega)
  have m0 := sin_le (p := 5395353) (q := 10800000 - bH u) (by omega) (by omega) (by omega)
  have m1 := sin_le (p := 10800000 - bH u) (q := 10800000 - bL u) (by omega) (by omega) (by omega)
  have m2 := sin_le (p := bL u - 5400000) (q := bH u - 5400000) (by omega) (by omega) (by omega)
  have m3 := sin_le (p := 0) (q := bL u - 5400000) (by omega) (by omega) (by omega)
  have m4 := sin_le (p := bH u - 5400000) (q := 4647) (by omega) (by omega) (by omega)
  have e0 := sinP_spots.1.1
  obtain ⟨_, e2, e1⟩ := sp_rfr
  have g1 := up_ge (10800000 - bL u)
  have g2 := up_ge (bH u - 5400000)
  have q := q_neg (a := -upI (bH u - 5400000)) (b := -sinP (bL u - 5400000)) (c := sinP (10800000 - bH u)) (d := upI (10800000 - bL u)) (n := 1000) (by omega) (by omega) (by omega) (by omega) (by omega)
  unfold oneL oneH
  rw [a, b, c, d]
  exact ⟨q.1, q.2, by omega, by omega, by omega, by omega, by omega⟩
theorem side {u : Int} (h : RU u) : bH u ≤ 5400000 ∨ 5400000 ≤ bL u := by
  obtain ⟨_, _, _, _, _, _, r7, _⟩ := b_range h
  omega
theorem one_sign {u : Int} (h : RU u) : (bH u ≤ 5400000 → 0 ≤ oneL u ∧ 0 ≤ oneH u) ∧ (5400000 ≤ bL u → oneL u ≤ 0 ∧ oneH u ≤ 0) := by
  refine ⟨fun k => ?_, fun k => ?_⟩
  · obtain ⟨a, b, c, d, e, f⟩ := one1 h k
    have n1 := Int.ediv_nonneg (a := sinP (5400000 - bH u) * 1000) (b := upI (bH u)) (by omega) (by omega)
    have n2 := ediv_np (x := -(upI (5400000 - bL u) * 1000)) (c := sinP (bL u)) (by omega) (by omega)
    omega
  · obtain ⟨a, b, c, d, e, f, g⟩ := one2 h k
    have n1 := ediv_np (x := -upI (bH u - 5400000) * 1000) (c := sinP (10800000 - bH u)) (by omega) (by omega)
    have n2 := Int.ediv_nonneg (a := -(-sinP (bL u - 5400000) * 1000)) (b := upI (10800000 - bL u)) (by omega) (by omega)
    omega
/-- The refraction becomes less with the altitude. -/
theorem one_mono {u v : Int} (hu : RU u) (hv : RU v) (h : u ≤ v) : oneL v ≤ oneL u ∧ oneH v ≤ oneH u := by
  obtain ⟨m1, m2⟩ := b_mono hu hv h
  obtain ⟨r1, r2, r3, r4, r5, r6, r7, r8⟩ := b_range hu
  obtain ⟨s1, s2, s3, s4, s5, s6, s7, s8⟩ := b_range hv
  obtain ⟨pu, nu⟩ := one_sign hu
  obtain ⟨pv, nv⟩ := one_sign hv
  rcases side hu with k | k
  · rcases side hv with l | l
    · obtain ⟨a, b, c, d, e, f⟩ := one1 hu k
      obtain ⟨a', b', c', d', e', f'⟩ := one1 hv l
      have t1 := (sin_le (p := 5400000 - bH v) (q := 5400000 - bH u) (by omega) (by omega) (by omega)).1
      have t2 := (sin_le (p := bH u) (q := bH v) (by omega) (by omega) (by omega)).2
      have t3 := (sin_le (p := 5400000 - bL v) (q := 5400000 - bL u) (by omega) (by omega) (by omega)).2
      have t4 := (sin_le (p := bL u) (q := bL v) (by omega) (by omega) (by omega)).1
      have d1 := ediv_less (x := sinP (5400000 - bH v) * 1000) (y := sinP (5400000 - bH u) * 1000) (c := upI (bH u)) (d := upI (bH v)) (by omega) (by omega) (by omega) t2
      have d2 := ediv_less' (x := -(upI (5400000 - bL u) * 1000)) (y := -(upI (5400000 - bL v) * 1000)) (c := sinP (bL u)) (d := sinP (bL v)) (by omega) (by omega) (by omega) t4
      omega
    · have := pu k
      have := nv l
      omega
  · have l : 5400000 ≤ bL v := by omega
    obtain ⟨a, b, c, d, e, f, g⟩ := one2 hu k
    obtain ⟨a', b', c', d', e', f', g'⟩ := one2 hv l
    have t1 := (sin_le (p := bH u - 5400000) (q := bH v - 5400000) (by omega) (by omega) (by omega)).2
    have t2 := (sin_le (p := 10800000 - bH v) (q := 10800000 - bH u) (by omega) (by omega) (by omega)).1
    have t3 := (sin_le (p := bL u - 5400000) (q := bL v - 5400000) (by omega) (by omega) (by omega)).1
    have t4 := (sin_le (p := 10800000 - bL v) (q := 10800000 - bL u) (by omega) (by omega) (by omega)).2
    have d1 := ediv_less' (x := -upI (bH v - 5400000) * 1000) (y := -upI (bH u - 5400000) * 1000) (c := sinP (10800000 - bH v)) (d := sinP (10800000 - bH u)) (by omega) (by omega) (by omega) t2
    have d2 := ediv_less (x := -(-sinP (bL u - 5400000) * 1000)) (y := -(-sinP (bL v - 5400000) * 1000)) (c := upI (10800000 - bL v)) (d := upI (10800000 - bL u)) (by omega) (by omega) (by omega) t4
    omega
theorem sin_next {p q : Int} (h0 : 0 ≤ p) (h : p ≤ q) (h1 : q ≤ p + 1) (h2 : q ≤ 5400000) : upI q ≤ sinP p + 2501 := by
  have g := up_ge p
  rcases (show q = p ∨ q = p + 1 by omega) with rfl | rfl
  · omega
  · have := sin_step (p := p) h0 (by omega)
    omega
/-- How far apart the ends are. -/
theorem one_wide {u : Int} (h : RU u) : oneL u ≤ oneH u ∧ oneH u ≤ oneL u + 7 ∧ -3 ≤ oneL u ∧ oneH u ≤ 60000 := by
  obtain ⟨r1, r2, r3, r4, r5, r6, r7, r8⟩ := b_range h
  rcases side h with k | k
  · obtain ⟨a, b, c, d, e, f⟩ := one1 h k
    obtain ⟨n1, n2⟩ := (one_sign h).1 k
    have t1 := sin_next (p := 5400000 - bH u) (q := 5400000 - bL u) (by omega) (by omega) (by omega) (by omega)
    have t2 := sin_next (p := bL u) (q := bH u) (by omega) (by omega) (by omega) (by omega)
    have t3 : sinP (5400000 - bH u) ≤ 1073741824 := (sinP_range (p := 5400000 - bH u) (by omega) (by omega)).1.2
    generalize sinP (5400000 - bH u) = c0 at *
    generalize upI (5400000 - bL u) = c1 at *
    generalize sinP (bL u) = s0 at *
    generalize upI (bH u) = s1 at *
    generalize oneL u = L at *
    generalize oneH u = H at *
    have x1 : L * s1 ≤ c0 * 1000 := (fl_iff (by omega)).mp (by omega)
    have x2 : c0 * 1000 < (L + 1) * s1 := by
      apply Int.not_le.mp
      intro q
      have := (fl_iff (show 0 < s1 by omega)).mpr q
      omega
    have x3 : c1 * 1000 ≤ H * s0 := (ce_iff (by omega)).mp (by omega)
    have x4 : (H - 1) * s0 < c1 * 1000 := by
      apply Int.not_le.mp
      intro q
      have := (ce_iff (show 0 < s0 by omega)).mpr q
      omega
    have y0 : L ≤ 49900 := by
      apply Int.not_lt.mp
      intro q
      have := Int.mul_le_mul (show 49901 ≤ L by omega) (show 21549932 ≤ s1 by omega) (by omega) (by omega)
      omega
    have y1 : L ≤ H := by
      apply Int.not_lt.mp
      intro q
      have p1 := Int.mul_le_mul_of_nonneg_right (show H ≤ L - 1 by omega) (show 0 ≤ s0 by omega)
      have p2 := Int.mul_le_mul_of_nonneg_left f n1
      have p3 : (L - 1) * s0 = L * s0 - s0 := by grind
      omega
    have y2 : H ≤ L + 7 := by
      apply Int.not_lt.mp
      intro q
      have p1 := Int.mul_le_mul_of_nonneg_right (show L + 7 ≤ H - 1 by omega) (show 0 ≤ s0 by omega)
      have p2 := Int.mul_le_mul_of_nonneg_left (show s1 ≤ s0 + 2501 by omega) (show 0 ≤ L + 1 by omega)
      have p3 : (L + 7) * s0 = (L + 1) * s0 + 6 * s0 := by grind
      have p4 : (L + 1) * (s0 + 2501) = (L + 1) * s0 + (L + 1) * 2501 := by grind
      omega
    omega
  · obtain ⟨a, b, c, d, e, f, g⟩ := one2 h k
    obtain ⟨n1, n2⟩ := (one_sign h).2 k
    have t2 := sin_next (p := 10800000 - bH u) (q := 10800000 - bL u) (by omega) (by omega) (by omega) (by omega)
    generalize sinP (bL u - 5400000) = c0 at *
    generalize upI (bH u - 5400000) = c1 at *
    generalize sinP (10800000 - bH u) = s0 at *
    generalize upI (10800000 - bL u) = s1 at *
    generalize oneL u = L at *
    generalize oneH u = H at *
    have x1 : -3 ≤ L := by
      rw [a]
      exact (fl_iff (by omega)).mpr (by omega)
    have x2 : L ≤ H := by
      have k1 := ediv_less' (x := -c1 * 1000) (y := -c0 * 1000) (c := s0) (d := s1) (by omega) (by omega) (by omega) (by omega)
      have k2 := fl_ce (x := -c0) (n := 1000) (d := s1) (by omega)
      unfold flQ ceQ at k2
      omega
    omega
theorem one_ok {u : Int} (h : RU u) : okF (cL (bL u) (bH u)) (cH (bL u) (bH u)) (encL (bL u) (bH u)) (encH (bL u) (bH u)) 1000 := by
  obtain ⟨a, b, c, d⟩ := one_wide h
  show -1099511627776 ≤ oneL u ∧ oneH u ≤ 1099511627776
  omega
/-! The factor of temperature and pressure. -/
def numF (p : Int) : Int := 283 * p
def denF (t : Int) : Int := 1010 * (2730 + t)
def Wth (t p : Int) : Prop := -500 ≤ t ∧ t ≤ 600 ∧ 5000 ≤ p ∧ p ≤ 11000
instance (t p : Int) : Decidable (Wth t p) := by unfold Wth; infer_instance
def atL (u t p : Int) : Int := oneL u * numF p / denF t
def atH (u t p : Int) : Int := -(-(oneH u * numF p) / denF t)
theorem fac_range {t p : Int} (h : Wth t p) : 1415000 ≤ numF p ∧ numF p ≤ 3113000 ∧ 2252300 ≤ denF t ∧ denF t ≤ 3363300 := by
  unfold Wth at h
  unfold numF denF
  omega
theorem at_mono {u v t p : Int} (hu : RU u) (hv : RU v) (h : u ≤ v) (hw : Wth t p) : atL v t p ≤ atL u t p ∧ atH v t p ≤ atH u t p := by
  obtain ⟨a, b, c, d⟩ := fac_range hw
  obtain ⟨m1, m2⟩ := one_mono hu hv h
  have k1 := Int.mul_le_mul_of_nonneg_right m1 (show 0 ≤ numF p by omega)
  have k2 := Int.mul_le_mul_of_nonneg_right m2 (show 0 ≤ numF p by omega)
  have d1 := Int.ediv_le_ediv (show 0 < denF t by omega) k1
  have d2 := Int.ediv_le_ediv (show 0 < denF t by omega) (show -(oneH u * numF p) ≤ -(oneH v * numF p) by omega)
  unfold atL atH
  omega
theorem at_wide {u t p : Int} (hu : RU u) (hw : Wth t p) : atL u t p ≤ atH u t p ∧ atH u t p < atL u t p + 20 ∧ -10 ≤ atL u t p ∧ atH u t p ≤ 100000 := by
  obtain ⟨a, b, c, d⟩ := fac_range hw
  obtain ⟨x, y, z, w⟩ := one_wide hu
  have hd : 0 < denF t := by omega
  unfold atL atH
  generalize numF p = n at *
  generalize denF t = m at *
  generalize oneL u = L at *
  generalize oneH u = H at *
  have k0 : -10 ≤ L * n / m := (fl_iff hd).mpr (by
    have := Int.mul_le_mul_of_nonneg_right z (show 0 ≤ n by omega)
    omega)
  have k1 : -(-(H * n) / m) ≤ 100000 := (ce_iff hd).mpr (by
    have := Int.mul_le_mul_of_nonneg_right w (show 0 ≤ n by omega)
    omega)
  have k2 : -(-(H * n) / m) ≤ L * n / m + 19 := (ce_iff hd).mpr (by
    have p1 := Int.mul_le_mul_of_nonneg_right y (show 0 ≤ n by omega)
    have p2 : L * n < (L * n / m + 1) * m := by
      apply Int.not_le.mp
      intro q
      have := (fl_iff hd).mpr q
      omega
    generalize L * n / m = q at *
    have p3 : (q + 19) * m = (q + 1) * m + 18 * m := by grind
    have p4 : (L + 7) * n = L * n + 7 * n := by grind
    omega)
  have k3 : L * n / m ≤ -(-(H * n) / m) := by
    have i1 := Int.ediv_le_ediv hd (Int.mul_le_mul_of_nonneg_right x (show 0 ≤ n by omega))
    have i2 := fl_ce (x := H) (n := n) hd
    unfold flQ ceQ at i2
    omega
  omega
end Go.Proofs.YtidhogcijghogaaGreatDoor
