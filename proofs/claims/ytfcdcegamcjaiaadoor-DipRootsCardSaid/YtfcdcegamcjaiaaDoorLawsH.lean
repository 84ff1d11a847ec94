/- The laws of dip that are checked without the reference. -/
import Derived.Test.YtfcdcegamcjaiaaDoorLawsG
namespace Go.Proofs.YtfcdcegamcjaiaaDoor
open Go Go.Abs Go.RowKit
set_option linter.unusedVariables false
set_option linter.unusedSimpArgs false
theorem sq_le {v r : Int} (h0 : 0 ≤ v) (h1 : v ≤ 1152921504606846976) (hr : 0 ≤ r) (h : r * r ≤ v) : r ≤ sqI v := by
  obtain ⟨a, b, c⟩ := sq_spec h0 h1
  have := sq_lt hr (show 0 ≤ sqI v + 1 by omega) (by omega)
  omega
theorem up_spec {v : Int} (h0 : 0 ≤ v) (h1 : v ≤ 1152921504606846976) : 0 ≤ rUp v ∧ sqI v ≤ rUp v ∧ rUp v ≤ sqI v + 1 ∧ v ≤ rUp v * rUp v ∧ ∀ r, 0 ≤ r → v ≤ r * r → rUp v ≤ r := by
  obtain ⟨a, b, c⟩ := sq_spec h0 h1
  unfold rUp
  split
  · rename_i q
    refine ⟨by omega, by omega, by omega, by omega, fun r hr hv => ?_⟩
    have := sq_lt a hr (by omega)
    omega
  · rename_i q
    refine ⟨a, by omega, by omega, by omega, fun r hr hv => ?_⟩
    rcases Int.lt_or_le r (sqI v) with k | k
    · exfalso
      have h2 := Int.mul_le_mul (show r + 1 ≤ sqI v by omega) (show r + 1 ≤ sqI v by omega) (by omega) a
      have e : (r + 1) * (r + 1) = r * r + 2 * r + 1 := by grind
      omega
    · exact k
theorem sq_mono {v u : Int} (h0 : 0 ≤ v) (h : v ≤ u) (h1 : u ≤ 1152921504606846976) : sqI v ≤ sqI u ∧ rUp v ≤ rUp u := by
  obtain ⟨a, b, c⟩ := sq_spec h0 (by omega)
  obtain ⟨_, _, _, d, _⟩ := up_spec (v := u) (by omega) h1
  obtain ⟨_, _, _, _, e⟩ := up_spec h0 (by omega)
  obtain ⟨f, _⟩ := up_spec (v := u) (by omega) h1
  exact ⟨sq_le (by omega) h1 a (by omega), e _ f (by omega)⟩
theorem four_sq {v : Int} (h0 : 0 ≤ v) (h1 : 4 * v ≤ 1152921504606846976) : 2 * sqI v ≤ sqI (4 * v) ∧ rUp (4 * v) ≤ 2 * rUp v := by
  obtain ⟨a, b, c⟩ := sq_spec h0 (by omega)
  obtain ⟨d, _, _, e, _⟩ := up_spec h0 (by omega)
  obtain ⟨_, _, _, _, f⟩ := up_spec (v := 4 * v) (by omega) h1
  refine ⟨sq_le (by omega) h1 (by omega) ?_, f _ (by omega) ?_⟩
  · have : 2 * sqI v * (2 * sqI v) = 4 * (sqI v * sqI v) := by grind
    omega
  · have : 2 * rUp v * (2 * rUp v) = 4 * (rUp v * rUp v) := by grind
    omega
/-- The height of an eye in the laws. -/
theorem eye_mod {e : Int} (h : 0 ≤ e ∧ e ≤ 65535) : (IntKind.i64.wrap e).tmod 10001 = e % 10001 ∧ 0 ≤ e % 10001 ∧ e % 10001 ≤ 10000 := by
  rw [wrap_in (by omega), Int.tmod_eq_emod_of_nonneg h.1]
  omega
theorem more_eye {n m : Int} (hn : 0 ≤ n ∧ n ≤ 10000) (hm : 0 ≤ m ∧ m ≤ 65535) : ∃ k, (if IntKind.i64.wrap (n + IntKind.i64.wrap m) < 10000 then IntKind.i64.wrap (n + IntKind.i64.wrap m) else 10000) = k ∧ n ≤ k ∧ k ≤ 10000 := by
  rw [wrap_in (n := m) (by omega), wrap_in (n := n + m) (by omega)]
  refine ⟨_, rfl, ?_⟩
  split <;> omega
theorem law_roots (e m : Int) (he : 0 ≤ e ∧ e ≤ 65535) (hm : 0 ≤ m ∧ m ≤ 65535) : Ans Tryd.prog Tabs 8 [.int .u16 e, .int .u16 m] (.bool true) := by
  refine ans_of (rfn_by st_tabs s_Lw (vc_roots e m) ?_)
  obtain ⟨e1, n0, n1⟩ := eye_mod he
  rw [e1]
  generalize e % 10001 = n at *
  obtain ⟨k, e2, k0, k1⟩ := more_eye ⟨n0, n1⟩ hm
  rw [e2]
  have En : Eye n := ⟨n0, n1⟩
  have Ek : Eye k := ⟨by omega, k1⟩
  have Hn : Hgt n := ⟨n0, by omega⟩
  have Hk : Hgt k := ⟨by omega, by omega⟩
  simp only [gate_yes En, gate_yes Ek, gate_yes Hn, gate_yes Hk, pick_yes En, pick_yes Ek, pick_yes Hn, pick_yes Hk]
  have m1 := sq_mono (v := 30976 * n) (u := 30976 * k) (by omega) (by omega) (by omega)
  have m2 := sq_mono (v := 43264 * n) (u := 43264 * k) (by omega) (by omega) (by omega)
  have s1 := sq_spec (v := 30976 * n) (by omega) (by omega)
  have s2 := sq_spec (v := 43264 * n) (by omega) (by omega)
  have u1 := up_spec (v := 30976 * n) (by omega) (by omega)
  have u2 := up_spec (v := 43264 * n) (by omega) (by omega)
  have r1 := u1.2.2.2.2 17600 (by omega) (by omega)
  have r2 := u2.2.2.2.2 20800 (by omega) (by omega)
  have f1 := four_sq (v := 30976 * n) (by omega) (by omega)
  have d1 : ∀ x, dLo x = sqI (30976 * x) := fun x => by unfold dLo; congr 1
  have d2 : ∀ x, dHi x = rUp (30976 * x) := fun x => by unfold dHi; congr 1
  have d3 : ∀ x, hLo x = sqI (43264 * x) := fun x => by unfold hLo; congr 1
  have d4 : ∀ x, hHi x = rUp (43264 * x) := fun x => by unfold hHi; congr 1
  have w4 : IntKind.i64.wrap (4 * n) = 4 * n := wrap_in (by omega)
  simp only [d1, d2, d3, d4, w4]
  rw [show 30976 * (4 * n) = 4 * (30976 * n) by omega]
  obtain ⟨u10, u11, u12, u13, _⟩ := u1
  obtain ⟨u20, u21, u22, u23, _⟩ := u2
  obtain ⟨s10, s11, s12⟩ := s1
  obtain ⟨s20, s21, s22⟩ := s2
  have v1 : IntKind.i64.wrap (30976 * n) = 30976 * n := wrap_in (by omega)
  have v2 : IntKind.i64.wrap (43264 * n) = 43264 * n := wrap_in (by omega)
  rw [v1, v2]
  have p1 := Int.mul_le_mul r1 r1 u10 (by decide)
  have p2 := Int.mul_le_mul r2 r2 u20 (by decide)
  generalize sqI (30976 * k) = A' at *
  generalize rUp (30976 * k) = B' at *
  generalize sqI (43264 * k) = C' at *
  generalize rUp (43264 * k) = D' at *
  generalize sqI (4 * (30976 * n)) = A4 at *
  generalize rUp (4 * (30976 * n)) = B4 at *
  generalize sqI (30976 * n) = A at *
  generalize rUp (30976 * n) = B at *
  generalize sqI (43264 * n) = C at *
  generalize rUp (43264 * n) = D at *
  have q0 : 0 ≤ A * A := Int.mul_nonneg s10 s10
  have q1 : 0 ≤ C * C := Int.mul_nonneg s20 s20
  have w1 : IntKind.i64.wrap (A * A) = A * A := wrap_in (by omega)
  have w2 : IntKind.i64.wrap (B * B) = B * B := wrap_in (by omega)
  have w3 : IntKind.i64.wrap (C * C) = C * C := wrap_in (by omega)
  have w5 : IntKind.i64.wrap (D * D) = D * D := wrap_in (by omega)
  have w6 : IntKind.i64.wrap (B - A) = B - A := wrap_in (by omega)
  have w7 : IntKind.i64.wrap (D - C) = D - C := wrap_in (by omega)
  have w8 : IntKind.i64.wrap (2 * A) = 2 * A := wrap_in (by omega)
  have w9 : IntKind.i64.wrap (2 * B) = 2 * B := wrap_in (by omega)
  rw [w1, w2, w3, w5, w6, w7, w8, w9]
  generalize A * A = AA at *
  generalize B * B = BB at *
  generalize C * C = CC at *
  generalize D * D = DD at *
  refine ⟨trivial, trivial, trivial, trivial, trivial, ?_⟩
  have N : ((0 : Int) != 0) = false := rfl
  rw [N, bcase_false, bcase_false, bcase_false, bcase_false]
  have stepF : ∀ {p : Prop} [Decidable p] {X Y : Prop}, ¬ p → Y → bcase (decide p) X Y := fun {p} _ {X Y} h y => by rw [decide_eq_false h]; exact y
  have stepT : ∀ {p : Prop} [Decidable p] {X Y : Prop}, p → X → bcase (decide p) X Y := fun {p} _ {X Y} h x => by rw [decide_eq_true h]; exact x
  refine stepF (by omega) (stepF (by omega) (stepF (by omega) (stepF (by omega) (stepF (by omega) (stepF (by omega) (stepF (by omega) (stepF (by omega) (stepF (by omega) (stepF (by omega) (stepF (by omega) (stepF (by omega) (stepF (by omega) (stepF (by omega) (stepF (by omega) (stepF (by omega) (bcase_iff.mpr ⟨fun _ => ⟨trivial, trivial⟩, fun q => ?_⟩))))))))))))))))
  have q := of_decide_eq_false q
  have E4 : Eye (4 * n) := ⟨by omega, by omega⟩
  rw [pick_yes E4, gate_yes E4, gate_yes E4, show ((0 : Int) == 0) = true from rfl, bcase_true]
  exact ⟨trivial, stepT (by omega) ⟨by rw [decide_eq_true (by omega)], trivial⟩⟩
theorem ceil_spec {N q : Int} (hq : 0 < q) : q * (N / q) ≤ N ∧ N < q * (N / q) + q ∧ N ≤ q * (-(-N / q)) ∧ q * (-(-N / q)) < N + q := by
  have h1 := Int.mul_ediv_add_emod N q
  have h2 := Int.emod_nonneg N (show q ≠ 0 by omega)
  have h3 := Int.emod_lt_of_pos N hq
  have h4 := Int.mul_ediv_add_emod (-N) q
  have h5 := Int.emod_nonneg (-N) (show q ≠ 0 by omega)
  have h6 := Int.emod_lt_of_pos (-N) hq
  have e : q * (-(-N / q)) = -(q * (-N / q)) := Int.mul_neg _ _
  omega
theorem pos_of_mul {x y s : Int} (hs : 0 < s) (h : s * x ≤ s * y) : x ≤ y := Int.le_of_mul_le_mul_left h hs
/-- The least value of the dip short of the horizon. -/
theorem short_least {n s r : Int} (hn : 0 ≤ n) (hs : 0 < s) (hr : 0 ≤ r) (h : nS n s ≤ 317500 * s * r) : 9797770000 * n ≤ 317500 * (r * r) := by
  unfold nS at h
  have hA : 0 ≤ 131953 * s * s := Int.mul_nonneg (by omega) (by omega)
  have hB : 0 ≤ 5893750000 * n := by omega
  have h0 : 0 ≤ 131953 * s * s + 5893750000 * n := by omega
  have sq := Int.mul_le_mul h h h0 (by omega)
  have am : 4 * ((131953 * s * s) * (5893750000 * n)) ≤ (131953 * s * s + 5893750000 * n) * (131953 * s * s + 5893750000 * n) := by
    have d : 0 ≤ (131953 * s * s - 5893750000 * n) * (131953 * s * s - 5893750000 * n) := by
      rcases Int.le_total (131953 * s * s) (5893750000 * n) with q | q
      · have := Int.mul_nonneg_of_nonpos_of_nonpos (show 131953 * s * s - 5893750000 * n ≤ 0 by omega) (show 131953 * s * s - 5893750000 * n ≤ 0 by omega)
        exact this
      · exact Int.mul_nonneg (by omega) (by omega)
    have e : (131953 * s * s + 5893750000 * n) * (131953 * s * s + 5893750000 * n) = (131953 * s * s - 5893750000 * n) * (131953 * s * s - 5893750000 * n) + 4 * ((131953 * s * s) * (5893750000 * n)) := by grind
    omega
  have ss : 0 < s * s := Int.mul_pos hs hs
  refine pos_of_mul (s := 317500 * (s * s)) (by omega) ?_
  have e1 : 317500 * (s * s) * (9797770000 * n) = 4 * ((131953 * s * s) * (5893750000 * n)) := by grind
  have e2 : 317500 * (s * s) * (317500 * (r * r)) = (317500 * s * r) * (317500 * s * r) := by grind
  omega
theorem law_short (e m d : Int) (he : 0 ≤ e ∧ e ≤ 65535) (hm : 0 ≤ m ∧ m ≤ 65535) (hd : 0 ≤ d ∧ d ≤ 4294967295) : Ans Tryd.prog Tabs 5 [.int .u16 e, .int .u16 m, .int .u32 d] (.bool true) := by
  refine ans_of (rfn_by st_tabs s_Lw (vc_short e m d) ?_)
  obtain ⟨e1, n0, n1⟩ := eye_mod he
  rw [e1]
  generalize e % 10001 = n at *
  obtain ⟨k, e2, k0, k1⟩ := more_eye ⟨n0, n1⟩ hm
  rw [e2]
  have e3 : IntKind.i64.wrap (1 + (IntKind.i64.wrap d).tmod 100000) = 1 + d % 100000 := by
    rw [wrap_in (n := d) (by omega), Int.tmod_eq_emod_of_nonneg hd.1, wrap_in (by omega)]
  rw [e3]
  have s0 : 1 ≤ 1 + d % 100000 ∧ 1 + d % 100000 ≤ 100000 := by omega
  generalize 1 + d % 100000 = s at *
  have o1 : okS n s := ⟨⟨n0, n1⟩, s0.1, s0.2⟩
  have o2 : okS k s := ⟨⟨by omega, k1⟩, s0.1, s0.2⟩
  simp only [gate_yes o1, gate_yes o2, pick_yes o1, pick_yes o2]
  obtain ⟨a1, a2, _⟩ := short_bd o1
  obtain ⟨b1, b2, _⟩ := short_bd o2
  have q0 : (0 : Int) < 317500 * s := by omega
  obtain ⟨c1, c2, c3, c4⟩ := ceil_spec (N := nS n s) q0
  obtain ⟨d1, d2, d3, d4⟩ := ceil_spec (N := nS k s) q0
  have mono : nS n s ≤ nS k s := by unfold nS; omega
  have up : nS n s ≤ 317500 * s * 536870912 := by
    unfold nS
    have : 131953 * s * s ≤ 13195300000 * s := by
      have := Int.mul_le_mul_of_nonneg_right (show 131953 * s ≤ 13195300000 by omega) (show 0 ≤ s by omega)
      omega
    omega
  have hLo : 0 ≤ sLo n s := Int.ediv_nonneg a1 (by omega)
  have hLH : sLo n s ≤ sHi n s := by
    unfold sLo sHi
    exact pos_of_mul q0 (by omega)
  have hH1 : sHi n s ≤ sLo n s + 1 := by
    unfold sLo sHi
    have : 317500 * s * (-(-nS n s / (317500 * s))) < 317500 * s * (nS n s / (317500 * s) + 2) := by
      rw [Int.mul_add]; omega
    have := Int.lt_of_mul_lt_mul_left this (by omega)
    omega
  have hHb : sHi n s ≤ 536870912 := by
    unfold sHi
    have : 317500 * s * (-(-nS n s / (317500 * s))) < 317500 * s * (536870912 + 1) := by
      rw [Int.mul_add]; omega
    have := Int.lt_of_mul_lt_mul_left this (by omega)
    omega
  have hL2 : sLo n s ≤ sLo k s := by
    unfold sLo
    have : 317500 * s * (nS n s / (317500 * s)) < 317500 * s * (nS k s / (317500 * s) + 1) := by
      rw [Int.mul_add]; omega
    have := Int.lt_of_mul_lt_mul_left this (by omega)
    omega
  have hH2 : sHi n s ≤ sHi k s := by
    unfold sHi
    have : 317500 * s * (-(-nS n s / (317500 * s))) < 317500 * s * (-(-nS k s / (317500 * s)) + 1) := by
      rw [Int.mul_add]; omega
    have := Int.lt_of_mul_lt_mul_left this (by omega)
    omega
  have least := short_least (n := n) (s := s) (r := sHi n s) n0 (by omega) (by omega) (by unfold sHi; omega)
  have sq := Int.mul_le_mul hHb hHb (by omega) (by decide)
  have sq0 := Int.mul_nonneg (show 0 ≤ sHi n s by omega) (show 0 ≤ sHi n s by omega)
  have w1 : IntKind.i64.wrap (sHi n s - sLo n s) = sHi n s - sLo n s := wrap_in (by omega)
  have w2 : IntKind.i64.wrap (sHi n s * sHi n s) = sHi n s * sHi n s := wrap_in (by omega)
  have w3 : IntKind.i64.wrap (9797770000 * n) = 9797770000 * n := wrap_in (by omega)
  have w4 : (9797770000 * n).tdiv 317500 = 9797770000 * n / 317500 := Int.tdiv_eq_ediv_of_nonneg (by omega)
  have w5 : IntKind.i64.wrap (9797770000 * n / 317500) = 9797770000 * n / 317500 := wrap_in (by omega)
  rw [w1, w2, w3, w4, w5]
  have N : ((0 : Int) != 0) = false := rfl
  rw [N, bcase_false, bcase_false]
  have stepF : ∀ {p : Prop} [Decidable p] {X Y : Prop}, ¬ p → Y → bcase (decide p) X Y := fun {p} _ {X Y} h y => by rw [decide_eq_false h]; exact y
  have stepT : ∀ {p : Prop} [Decidable p] {X Y : Prop}, p → X → bcase (decide p) X Y := fun {p} _ {X Y} h x => by rw [decide_eq_true h]; exact x
  exact ⟨trivial, trivial, trivial, stepF (by omega) (stepF (by omega) (stepF (by omega) (stepF (by omega) (stepT (by omega) (stepT (by omega) ⟨by rw [decide_eq_true (by omega)], trivial⟩)))))⟩
end Go.Proofs.YtfcdcegamcjaiaaDoor
