/- Contracts of the functions of dip and of its reference over numbers and arcs. -/
import Derived.Test.YtofnffcdbbiohaaDoorDpVcD
namespace Go.Proofs.YtofnffcdbbiohaaDoor.Dp
open Go Go.Abs Go.RowKit
set_option linter.unusedVariables false
set_option linter.unusedSimpArgs false
theorem eq_pair {a b c d : Value} (h : a = c) (k : b = d) : Value.tuple #[a, b] = pair c d := by rw [h, k]
theorem eq_arc {a b c d : Int} (h : a = c) (k : b = d) : Value.agg #[.int .i64 a, .int .i64 b] = arc c d := by rw [h, k]
theorem eq_num {k : IntKind} {a b : Int} (h : a = b) : Value.int k a = .int k b := by rw [h]
theorem eq_bool {a b : Bool} (h : a = b) : Value.bool a = .bool b := by rw [h]
theorem eq_dec {p q : Prop} [Decidable p] [Decidable q] (h : p ↔ q) : Value.bool (decide p) = .bool (decide q) := by simp [h]
theorem eq_yes {p : Prop} [Decidable p] (h : p) : Value.bool true = .bool (decide p) := by simp [h]
theorem eq_no {p : Prop} [Decidable p] (h : ¬ p) : Value.bool false = .bool (decide p) := by simp [h]
theorem gate_yes {c : Prop} [Decidable c] {x : Int} (h : c) : gate c x = x := if_pos h
theorem gate_no {c : Prop} [Decidable c] {x : Int} (h : ¬ c) : gate c x = 0 := if_neg h
theorem pick_yes {c : Prop} [Decidable c] {x y : Int} (h : c) : pick c x y = x := if_pos h
theorem pick_no {c : Prop} [Decidable c] {x y : Int} (h : ¬ c) : pick c x y = y := if_neg h
theorem tmod_case (n t : Int) (h : 0 < t) : (n.tmod t < 0 ∧ n.tmod t = n % t - t) ∨ (0 ≤ n.tmod t ∧ n.tmod t = n % t) := by
  have h1 := Int.emod_nonneg n (b := t) (by omega)
  have h2 := Int.emod_lt_of_pos n h
  rw [Int.tmod_eq_emod]
  split <;> omega
theorem tdiv_case (n t : Int) (h : 0 < t) : (n.tmod t < 0 ∧ n.tdiv t = n / t + 1) ∨ (0 ≤ n.tmod t ∧ n.tdiv t = n / t) := by
  have e1 := Int.mul_tdiv_add_tmod n t
  have e2 := Int.mul_ediv_add_emod n t
  rcases tmod_case n t h with ⟨c, e⟩ | ⟨c, e⟩
  · refine .inl ⟨c, ?_⟩
    have : t * n.tdiv t = t * (n / t + 1) := by rw [Int.mul_add]; omega
    exact Int.eq_of_mul_eq_mul_left (by omega) this
  · refine .inr ⟨c, ?_⟩
    have : t * n.tdiv t = t * (n / t) := by omega
    exact Int.eq_of_mul_eq_mul_left (by omega) this
theorem quo_bd {n d : Int} (hn : I64 n) (hd : 1 ≤ d) : I64 (n / d) := ediv_bd hd hn.1 hn.2 (by omega) (by omega)
theorem not_long {a b : ByteArray} (h : a.size + b.size ≤ 9223372036854775807) : tooLong a b = false := by
  unfold tooLong
  have : IntKind.i64.max = 9223372036854775807 := rfl
  rw [this]
  exact decide_eq_false (by omega)
/-! Roots. -/
theorem rootI_spec : ∀ (n : Nat) (v r : Int), 0 ≤ r → r * r ≤ v → v < (r + 2 ^ n) * (r + 2 ^ n) →
    rootI n v r * rootI n v r ≤ v ∧ v < (rootI n v r + 1) * (rootI n v r + 1) ∧ r ≤ rootI n v r
  | 0, v, r, h0, h1, h2 => ⟨h1, by simpa [rootI] using h2, Int.le_refl _⟩
  | n + 1, v, r, h0, h1, h2 => by
    have hp : (0 : Int) ≤ 2 ^ n := Int.pow_nonneg (by decide)
    have e : r + (2 : Int) ^ (n + 1) = r + 2 ^ n + 2 ^ n := by rw [Int.pow_succ]; omega
    unfold rootI
    by_cases h : (r + 2 ^ n) * (r + 2 ^ n) ≤ v
    · rw [if_pos h]
      rw [e] at h2
      obtain ⟨a, b, c⟩ := rootI_spec n v (r + 2 ^ n) (by omega) h h2
      exact ⟨a, b, by omega⟩
    · rw [if_neg h]
      exact rootI_spec n v r h0 h1 (by omega)
theorem pow31 : (2 : Int) ^ 31 = 2147483648 := by decide
theorem sq_spec {v : Int} (h0 : 0 ≤ v) (h1 : v ≤ 1152921504606846976) : 0 ≤ sqI v ∧ sqI v * sqI v ≤ v ∧ v < (sqI v + 1) * (sqI v + 1) := by
  obtain ⟨a, b, c⟩ := rootI_spec 31 v 0 (by omega) (by omega) (by rw [pow31]; omega)
  exact ⟨c, a, b⟩
theorem sq_lt {x y : Int} (hx : 0 ≤ x) (hy : 0 ≤ y) (h : x * x < y * y) : x < y := by
  rcases Int.lt_or_le x y with q | q
  · exact q
  · have := Int.mul_le_mul q q hy hx
    omega
theorem sq_uniq {v r : Int} (h0 : 0 ≤ v) (h1 : v ≤ 1152921504606846976) (hr : 0 ≤ r) (h2 : r * r ≤ v) (h3 : v < (r + 1) * (r + 1)) : sqI v = r := by
  obtain ⟨a, b, c⟩ := sq_spec h0 h1
  have q1 := sq_lt a (show 0 ≤ r + 1 by omega) (by omega)
  have q2 := sq_lt hr (show 0 ≤ sqI v + 1 by omega) (by omega)
  omega
variable {Φ : World → Prop} (hst : ∀ w w', Φ w → Below w.heap.size w w' → Φ w')
include hst
theorem c_fits (n : Int) : Ans Tryd.prog Φ 25 [num n] (.bool (decide (Fit n))) := by
  refine fn_by hst Sound.nil (vc_fits n _) ?_
  simp only [bcase_iff, true_and, and_true, decide_eq_true_eq, decide_eq_false_iff_not, Bool.not_eq_true', Bool.not_eq_false', Bool.not_true, Bool.not_false, beq_iff_eq, beq_eq_false_iff_ne, bne_iff_ne, ne_eq, bne_eq_false_iff_eq, Decidable.not_not, ge_iff_le, gt_iff_lt, Bool.not_eq_true, Bool.and_eq_true, Bool.or_eq_true, forall_const, imp_false, implies_true, Bool.true_eq_false, Bool.false_eq_true, false_implies, true_implies, Int.not_lt, Int.not_le, Int.zero_sub]
  repeat' (first | intro _ | apply And.intro)
  all_goals (try (repeat' (first | exact rfl | apply eq_pair | apply eq_arc | apply eq_num | apply eq_dec | apply eq_no | apply eq_yes)))
  all_goals unfold Fit; omega
theorem s_fits : Sound Tryd.prog Φ ΓF :=
  Sound.cons (by kernel_rfl) (fun args p v h _ => by unfold sFits at h; split at h <;> cases h; exact c_fits hst _) Sound.nil
theorem c_valid (a b : Int) : Ans Tryd.prog Φ 14 [arc a b] (.bool (decide (Val a b))) := by
  refine fn_by hst (s_fits hst) (vc_valid a b _) ?_
  simp only [bcase_iff, true_and, and_true, decide_eq_true_eq, decide_eq_false_iff_not, Bool.not_eq_true', Bool.not_eq_false', Bool.not_true, Bool.not_false, beq_iff_eq, beq_eq_false_iff_ne, bne_iff_ne, ne_eq, bne_eq_false_iff_eq, Decidable.not_not, ge_iff_le, gt_iff_lt, Bool.not_eq_true, Bool.and_eq_true, Bool.or_eq_true, forall_const, imp_false, implies_true, Bool.true_eq_false, Bool.false_eq_true, false_implies, true_implies, Int.not_lt, Int.not_le, Int.zero_sub]
  repeat' (first | intro _ | apply And.intro)
  all_goals (try (repeat' (first | exact rfl | apply eq_pair | apply eq_arc | apply eq_num | apply eq_dec | apply eq_no | apply eq_yes)))
  all_goals (unfold Val; (try unfold Fit at *); omega)
theorem c_floor (n d : Int) (hn : I64 n) (hd : Den d) : Ans Tryd.prog Φ 32 [num n, num d] (num (n / d)) := by
  obtain ⟨hd, hd2⟩ := hd
  refine fn_by hst Sound.nil (vc_floor n d _) ?_
  simp only [bcase_iff, true_and, and_true, decide_eq_true_eq, decide_eq_false_iff_not, Bool.not_eq_true', Bool.not_eq_false', Bool.not_true, Bool.not_false, beq_iff_eq, beq_eq_false_iff_ne, bne_iff_ne, ne_eq, bne_eq_false_iff_eq, Decidable.not_not, ge_iff_le, gt_iff_lt, Bool.not_eq_true, Bool.and_eq_true, Bool.or_eq_true, forall_const, imp_false, implies_true, Bool.true_eq_false, Bool.false_eq_true, false_implies, true_implies, Int.not_lt, Int.not_le, Int.zero_sub]
  have hq := quo_bd hn hd
  have hn0 := hn
  unfold I64 at hq hn
  have h0 : n / d + 1 ≤ 9223372036854775807 ∨ 0 ≤ n.tmod d := by
    by_cases q : n < 0
    · have h4 := Int.ediv_neg_of_neg_of_pos q (by omega : 0 < d); omega
    · exact .inr (Int.tmod_nonneg d (by omega))
  refine ⟨by omega, fun _ => ⟨by omega, fun _ => ?_⟩⟩
  rcases tdiv_case n d (by omega) with ⟨c, e⟩ | ⟨c, e⟩ <;> refine ⟨fun _ => eq_num ?_, fun _ => eq_num ?_⟩ <;> (try omega)
  · rw [e, wrap_in (n := n / d + 1) (by omega), wrap_in (by omega)]; omega
  · rw [e, wrap_in (by omega)]
theorem c_dfloor (n d : Int) (hn : I64 n) (hd : Den d) : Ans Tryd.prog Φ 17 [num n, num d] (num (n / d)) := by
  obtain ⟨hd, hd2⟩ := hd
  refine fn_by hst Sound.nil (vc_dfloor n d _) ?_
  simp only [bcase_iff, true_and, and_true, decide_eq_true_eq, decide_eq_false_iff_not, Bool.not_eq_true', Bool.not_eq_false', Bool.not_true, Bool.not_false, beq_iff_eq, beq_eq_false_iff_ne, bne_iff_ne, ne_eq, bne_eq_false_iff_eq, Decidable.not_not, ge_iff_le, gt_iff_lt, Bool.not_eq_true, Bool.and_eq_true, Bool.or_eq_true, forall_const, imp_false, implies_true, Bool.true_eq_false, Bool.false_eq_true, false_implies, true_implies, Int.not_lt, Int.not_le, Int.zero_sub]
  have hq := quo_bd hn hd
  have hn0 := hn
  unfold I64 at hq hn
  have h0 : n / d + 1 ≤ 9223372036854775807 ∨ 0 ≤ n.tmod d := by
    by_cases q : n < 0
    · have h4 := Int.ediv_neg_of_neg_of_pos q (by omega : 0 < d); omega
    · exact .inr (Int.tmod_nonneg d (by omega))
  refine ⟨by omega, fun _ => ⟨by omega, fun _ => ?_⟩⟩
  rcases tdiv_case n d (by omega) with ⟨c, e⟩ | ⟨c, e⟩ <;> refine ⟨fun _ => eq_num ?_, fun _ => eq_num ?_⟩ <;> (try omega)
  · rw [e, wrap_in (n := n / d + 1) (by omega), wrap_in (by omega)]; omega
  · rw [e, wrap_in (by omega)]
theorem c_dquot (n d : Int) (hn : I64 n) (hm : I64 (-n)) (hd : Den d) (hr : I64 (-(-n / d))) : Ans Tryd.prog Φ 22 [num n, num d] (arc (n / d) (-(-n / d))) := by
  refine fn_by hst (Sound.cons (by kernel_rfl) (fun args p v h hp => by unfold sFloor at h; split at h <;> cases h; exact c_dfloor hst _ _ hp.1 hp.2) Sound.nil) (vc_dquot n d _) ?_
  rw [Int.zero_sub, wrap_in (n := -n) hm, Int.zero_sub, wrap_in hr]
  exact ⟨⟨hn, hd⟩, ⟨hm, hd⟩, rfl⟩
theorem c_droot (f n : Int) (h : Rt f n) : Ans Tryd.prog Φ 21 [num f, num n] (arc (sqI (f * f * n)) (rUp (f * f * n))) := by
  obtain ⟨f0, f1, n0, n1⟩ := h
  refine fn_by hst Sound.nil (vc_droot f n _) ?_
  have ff : 0 ≤ f * f ∧ f * f ≤ 43264 := ⟨Int.mul_nonneg f0 f0, by have := Int.mul_le_mul f1 f1 f0 (by decide); omega⟩
  have fn : 0 ≤ f * f * n ∧ f * f * n ≤ 43264000000 := ⟨Int.mul_nonneg ff.1 n0, by have := Int.mul_le_mul ff.2 n1 n0 (by decide); omega⟩
  rw [wrap_in (n := f * f) (by omega), wrap_in (n := f * f * n) (by omega)]
  generalize hV : f * f * n = V at *
  refine ⟨(0, 2097152), ⟨rfl, rfl, rfl, rfl, rfl, rfl, rfl, trivial⟩, ⟨Int.le_refl 0, by show (0 : Int) < 2097152; decide, Int.le_refl _, by show (0 : Int) * 0 ≤ V; omega, by show V < 2097152 * 2097152; omega⟩, fun s hs => ?_⟩
  obtain ⟨lo, hi⟩ := s
  obtain ⟨l0, l1, l2, l3, l4⟩ := hs
  dsimp only at l0 l1 l2 l3 l4 ⊢
  rw [wrap_in (n := hi - lo) (by omega), wrap_in (n := lo + hi) (by omega), Int.tdiv_eq_ediv_of_nonneg (show 0 ≤ lo + hi by omega), wrap_in (n := (lo + hi) / 2) (by omega)]
  refine bcase_iff.mpr ⟨fun q => ?_, fun q => ?_⟩
  · have q := of_decide_eq_true q
    have m1 : lo < (lo + hi) / 2 := by omega
    have m2 : (lo + hi) / 2 < hi := by omega
    generalize (lo + hi) / 2 = m at *
    have mm : 0 ≤ m * m ∧ m * m ≤ 2097152 * 2097152 := ⟨Int.mul_nonneg (by omega) (by omega), Int.mul_le_mul (by omega) (by omega) (by omega) (by decide)⟩
    rw [wrap_in (n := m * m) (by omega)]
    refine bcase_iff.mpr ⟨fun k => ?_, fun k => ?_⟩
    · have k := of_decide_eq_true k
      exact ⟨(m, hi), ⟨rfl, rfl, rfl, rfl, rfl, rfl, rfl, trivial⟩, ⟨by show 0 ≤ m; omega, m2, l2, k, l4⟩, by show (hi - m).toNat < (hi - lo).toNat; omega⟩
    · have k := of_decide_eq_false k
      exact ⟨(lo, m), ⟨rfl, rfl, rfl, rfl, rfl, rfl, rfl, trivial⟩, ⟨l0, m1, by show m ≤ 2097152; omega, l3, by show V < m * m; omega⟩, by show (m - lo).toNat < (hi - lo).toNat; omega⟩
  · have q := of_decide_eq_false q
    have e : hi = lo + 1 := by omega
    subst e
    have sq := sq_uniq (v := V) (r := lo) (by omega) (by omega) l0 l3 l4
    have up : rUp V = if lo * lo < V then lo + 1 else lo := by unfold rUp; rw [sq]
    rw [up, sq, wrap_in (n := lo * lo) (by have := Int.mul_nonneg l0 l0; omega), wrap_in (n := lo + 1) (by omega)]
    refine bcase_iff.mpr ⟨fun k => ?_, fun k => ?_⟩
    · rw [if_pos (of_decide_eq_true k)]
    · rw [if_neg (of_decide_eq_false k)]
theorem s_Dp : Sound Tryd.prog Φ ΓDp :=
  Sound.cons (by kernel_rfl) (fun args p v h hp => by unfold sRootD at h; split at h <;> cases h; exact c_droot hst _ _ hp)
  (Sound.cons (by kernel_rfl) (fun args p v h hp => by unfold sQuot at h; split at h <;> cases h; exact c_dquot hst _ _ hp.1 hp.2.1 hp.2.2.1 hp.2.2.2) Sound.nil)
omit hst in
theorem s_D5 : Sound Tryd.prog Φ ΓD5 := Sound.nil
theorem c_ddip (n : Int) : Ans Tryd.prog Φ 9 [num n] (pair (arc (gate (Eye n) (dLo n)) (gate (Eye n) (dHi n))) (num (pick (Eye n) 0 2))) := by
  refine fn_by hst (s_Dp hst) (vc_ddip n _) ?_
  by_cases h : Eye n
  · rw [gate_yes h, gate_yes h, pick_yes h]
    unfold Eye at h
    rw [decide_eq_true (show n ≥ 0 by omega), bcase_true, decide_eq_true (show n ≤ 10000 by omega)]
    exact ⟨by unfold Rt; omega, rfl⟩
  · rw [gate_no h, gate_no h, pick_no h]
    unfold Eye at h
    simp only [bcase_iff, true_and, and_true, decide_eq_true_eq, decide_eq_false_iff_not, Bool.not_eq_true', Bool.not_eq_false', Bool.not_true, Bool.not_false, beq_iff_eq, beq_eq_false_iff_ne, bne_iff_ne, ne_eq, bne_eq_false_iff_eq, Decidable.not_not, ge_iff_le, gt_iff_lt, Bool.not_eq_true, Bool.and_eq_true, Bool.or_eq_true, forall_const, imp_false, implies_true, Bool.true_eq_false, Bool.false_eq_true, false_implies, true_implies, Int.not_lt, Int.not_le, Int.zero_sub]
    repeat' (first | intro _ | apply And.intro)
    all_goals (first | rfl | (exfalso; omega))
omit hst in
theorem short_bd {e d : Int} (h : okS e d) : 0 ≤ nS e d ∧ nS e d ≤ 1378467500000000 ∧ 0 ≤ 131953 * d ∧ 131953 * d ≤ 13195300000 ∧ 0 ≤ 131953 * d * d ∧ 131953 * d * d ≤ 1319530000000000 ∧ 0 ≤ 5893750000 * e ∧ 5893750000 * e ≤ 58937500000000 ∧ 317500 ≤ 317500 * d ∧ 317500 * d ≤ 31750000000 := by
  obtain ⟨⟨e0, e1⟩, d0, d1⟩ := h
  have dd : 0 ≤ 131953 * d * d ∧ 131953 * d * d ≤ 1319530000000000 := ⟨Int.mul_nonneg (by omega) (by omega), by have := Int.mul_le_mul (show 131953 * d ≤ 13195300000 by omega) d1 (by omega) (by decide); omega⟩
  unfold nS
  omega
omit hst in
theorem short_ok {e d : Int} (h : okS e d) : I64 (nS e d) ∧ I64 (-nS e d) ∧ Den (317500 * d) ∧ I64 (-(-nS e d / (317500 * d))) := by
  obtain ⟨a, b, _, _, _, _, _, _, c, c'⟩ := short_bd h
  have q := ediv_bd (a := -nS e d) (b := 317500 * d) (lo := -1378467500000000) (hi := 0) (by omega) (by omega) (by omega) (by omega) (by omega)
  exact ⟨by unfold I64; omega, by unfold I64; omega, ⟨by omega, by omega⟩, by unfold I64; omega⟩
theorem c_dshort (e d : Int) : Ans Tryd.prog Φ 10 [num e, num d] (pair (arc (gate (okS e d) (sLo e d)) (gate (okS e d) (sHi e d))) (num (pick (okS e d) 0 2))) := by
  refine fn_by hst (s_Dp hst) (vc_dshort e d _) ?_
  by_cases h : okS e d
  · rw [gate_yes h, gate_yes h, pick_yes h]
    obtain ⟨a, b, c1, c2, c3, c4, c5, c6, c7, c8⟩ := short_bd h
    have ok := short_ok h
    obtain ⟨⟨e0, e1⟩, d0, d1⟩ := h
    rw [decide_eq_true (show e ≥ 0 by omega), bcase_true, decide_eq_true (show e ≤ 10000 by omega), Bool.not_true, bcase_false, decide_eq_true (show d ≥ 1 by omega), bcase_true, decide_eq_true (show d ≤ 100000 by omega), Bool.not_true, bcase_false,
      wrap_in (n := 131953 * d) (by omega), wrap_in (n := 131953 * d * d) (by omega), wrap_in (n := 5893750000 * e) (by omega), wrap_in (n := 131953 * d * d + 5893750000 * e) (by omega), wrap_in (n := 317500 * d) (by omega)]
    exact ⟨ok, rfl⟩
  · rw [gate_no h, gate_no h, pick_no h]
    unfold okS Eye at h
    refine bcase_iff.mpr ⟨fun a => bcase_iff.mpr ⟨fun b => rfl, fun b => bcase_iff.mpr ⟨fun c => bcase_iff.mpr ⟨fun d' => rfl, fun d' => ?_⟩, fun c => rfl⟩⟩, fun a => rfl⟩
    simp at a b c d'
    exfalso; omega
omit hst in
theorem root_bd {n : Int} (h : Hgt n) : 0 ≤ sqI (208 * 208 * n) ∧ sqI (208 * 208 * n) ≤ 2097152 ∧ sqI (208 * 208 * n) ≤ rUp (208 * 208 * n) ∧ rUp (208 * 208 * n) ≤ sqI (208 * 208 * n) + 1 := by
  unfold Hgt at h
  obtain ⟨s0, s1, s2⟩ := sq_spec (v := 208 * 208 * n) (by omega) (by omega)
  have lt : sqI (208 * 208 * n) < 2097152 := sq_lt s0 (by decide) (by omega)
  unfold rUp
  split <;> omega
theorem c_dvisible (e h : Int) : Ans Tryd.prog Φ 11 [num e, num h] (pair (arc (gate (okV e h) (hLo e + hLo h)) (gate (okV e h) (hHi e + hHi h))) (num (pick (okV e h) 0 2))) := by
  refine fn_by hst (s_Dp hst) (vc_dvisible e h _) ?_
  by_cases k : okV e h
  · rw [gate_yes k, gate_yes k, pick_yes k]
    obtain ⟨⟨e0, e1⟩, h0, h1⟩ := k
    obtain ⟨a1, a2, a3, a4⟩ := root_bd (n := e) ⟨e0, by omega⟩
    obtain ⟨b1, b2, b3, b4⟩ := root_bd (n := h) ⟨h0, h1⟩
    rw [decide_eq_true (show e ≥ 0 by omega), bcase_true, decide_eq_true (show e ≤ 10000 by omega), Bool.not_true, bcase_false, decide_eq_true (show h ≥ 0 by omega), bcase_true, decide_eq_true (show h ≤ 1000000 by omega), Bool.not_true, bcase_false,
      wrap_in (n := sqI (208 * 208 * e) + sqI (208 * 208 * h)) (by omega), wrap_in (n := rUp (208 * 208 * e) + rUp (208 * 208 * h)) (by omega)]
    exact ⟨by unfold Rt; omega, by unfold Rt; omega, rfl⟩
  · rw [gate_no k, gate_no k, pick_no k]
    unfold okV Eye Hgt at k
    refine bcase_iff.mpr ⟨fun a => bcase_iff.mpr ⟨fun b => rfl, fun b => bcase_iff.mpr ⟨fun c => bcase_iff.mpr ⟨fun d' => rfl, fun d' => ?_⟩, fun c => rfl⟩⟩, fun a => rfl⟩
    simp at a b c d'
    exfalso; omega
end Go.Proofs.YtofnffcdbbiohaaDoor.Dp
