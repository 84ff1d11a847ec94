/- Contracts of the functions of angle over arcs. -/
import Derived.Test.YtcejlhgjcoidpaaDoorCtA
namespace Go.Proofs.YtcejlhgjcoidpaaDoor
open Go Go.Abs Go.RowKit
set_option linter.unusedVariables false
set_option linter.unusedSimpArgs false
variable {Φ : World → Prop} (hst : ∀ w w', Φ w → Below w.heap.size w w' → Φ w')
include hst
theorem c_signed (n : Int) : Ans Tryd.prog Φ 13 [num n] (num (signed n)) := by
  refine fn_by hst (s0 hst) (vc_signed n _) ?_
  simp only [bcase_iff, true_and, and_true, decide_eq_true_eq, decide_eq_false_iff_not, Bool.not_eq_true', Bool.not_eq_false', Bool.not_true, Bool.not_false, beq_iff_eq, beq_eq_false_iff_ne, bne_iff_ne, ne_eq, bne_eq_false_iff_eq, Decidable.not_not, ge_iff_le, gt_iff_lt, Bool.not_eq_true, Bool.and_eq_true, Bool.or_eq_true, forall_const, imp_false, implies_true, Bool.true_eq_false, Bool.false_eq_true, false_implies, true_implies, Int.not_lt, Int.not_le, Int.zero_sub]
  have h1 := Int.emod_nonneg n (b := 21600000) (by omega)
  have h2 := Int.emod_lt_of_pos n (b := 21600000) (by omega)
  unfold signed
  refine ⟨fun h => eq_num ?_, fun h => eq_num ?_⟩
  · rw [wrap_in (by omega), if_neg (by omega)]
  · rw [if_pos (by omega)]
theorem c_r5signed (n : Int) : Ans Tryd.prog Φ 19 [num n] (num (signed n)) := by
  refine fn_by hst (s0 hst) (vc_r5signed n _) ?_
  simp only [bcase_iff, true_and, and_true, decide_eq_true_eq, decide_eq_false_iff_not, Bool.not_eq_true', Bool.not_eq_false', Bool.not_true, Bool.not_false, beq_iff_eq, beq_eq_false_iff_ne, bne_iff_ne, ne_eq, bne_eq_false_iff_eq, Decidable.not_not, ge_iff_le, gt_iff_lt, Bool.not_eq_true, Bool.and_eq_true, Bool.or_eq_true, forall_const, imp_false, implies_true, Bool.true_eq_false, Bool.false_eq_true, false_implies, true_implies, Int.not_lt, Int.not_le, Int.zero_sub]
  have h1 := Int.emod_nonneg n (b := 21600000) (by omega)
  have h2 := Int.emod_lt_of_pos n (b := 21600000) (by omega)
  unfold signed
  refine ⟨fun h => eq_num ?_, fun h => eq_num ?_⟩
  · rw [wrap_in (by omega), if_neg (by omega)]
  · rw [if_pos (by omega)]
theorem c_inside (a b c d : Int) : Ans Tryd.prog Φ 16 [arc a b, arc c d] (.bool (decide (Val a b ∧ Val c d ∧ c ≤ a ∧ b ≤ d))) := by
  refine fn_by hst (s0 hst) (vc_inside a b c d _) ?_
  simp only [bcase_iff, true_and, and_true, decide_eq_true_eq, decide_eq_false_iff_not, Bool.not_eq_true', Bool.not_eq_false', Bool.not_true, Bool.not_false, beq_iff_eq, beq_eq_false_iff_ne, bne_iff_ne, ne_eq, bne_eq_false_iff_eq, Decidable.not_not, ge_iff_le, gt_iff_lt, Bool.not_eq_true, Bool.and_eq_true, Bool.or_eq_true, forall_const, imp_false, implies_true, Bool.true_eq_false, Bool.false_eq_true, false_implies, true_implies, Int.not_lt, Int.not_le, Int.zero_sub]
  repeat' (first | intro _ | apply And.intro)
  all_goals (try (repeat' (first | exact rfl | apply eq_pair | apply eq_arc | apply eq_num | apply eq_dec | apply eq_no | apply eq_yes)))
  all_goals grind
theorem c_add (a b c d : Int) : Ans Tryd.prog Φ 24 [arc a b, arc c d] (pair (arc (gate (ok2 a b c d (a + c) (b + d)) (a + c)) (gate (ok2 a b c d (a + c) (b + d)) (b + d))) (num (er2 a b c d (a + c) (b + d)))) := by
  refine fn_by hst (s0 hst) (vc_add a b c d _) ?_
  simp only [bcase_iff, true_and, and_true, decide_eq_true_eq, decide_eq_false_iff_not, Bool.not_eq_true', Bool.not_eq_false', Bool.not_true, Bool.not_false, beq_iff_eq, beq_eq_false_iff_ne, bne_iff_ne, ne_eq, bne_eq_false_iff_eq, Decidable.not_not, ge_iff_le, gt_iff_lt, Bool.not_eq_true, Bool.and_eq_true, Bool.or_eq_true, forall_const, imp_false, implies_true, Bool.true_eq_false, Bool.false_eq_true, false_implies, true_implies, Int.not_lt, Int.not_le, Int.zero_sub]
  repeat' (first | intro _ | apply And.intro)
  all_goals
    have w1 : Val a b → Val c d → IntKind.i64.wrap (a + c) = a + c := fun h k => wrap_in (by unfold Val at *; omega)
    have w2 : Val a b → Val c d → IntKind.i64.wrap (b + d) = b + d := fun h k => wrap_in (by unfold Val at *; omega)
  all_goals (try (repeat' (first | exact rfl | apply eq_pair | apply eq_arc | apply eq_num | apply eq_dec | apply eq_no | apply eq_yes)))
  all_goals grind [gate, ok2, er2, pick]
theorem c_neg (a b : Int) : Ans Tryd.prog Φ 27 [arc a b] (pair (arc (gate (Val a b) (-b)) (gate (Val a b) (-a))) (num (pick (Val a b) 0 1))) := by
  refine fn_by hst (s0 hst) (vc_neg a b _) ?_
  simp only [bcase_iff, true_and, and_true, decide_eq_true_eq, decide_eq_false_iff_not, Bool.not_eq_true', Bool.not_eq_false', Bool.not_true, Bool.not_false, beq_iff_eq, beq_eq_false_iff_ne, bne_iff_ne, ne_eq, bne_eq_false_iff_eq, Decidable.not_not, ge_iff_le, gt_iff_lt, Bool.not_eq_true, Bool.and_eq_true, Bool.or_eq_true, forall_const, imp_false, implies_true, Bool.true_eq_false, Bool.false_eq_true, false_implies, true_implies, Int.not_lt, Int.not_le, Int.zero_sub]
  repeat' (first | intro _ | apply And.intro)
  all_goals
    have w1 : Val a b → IntKind.i64.wrap (-a) = -a := fun h => wrap_in (by unfold Val at *; omega)
    have w2 : Val a b → IntKind.i64.wrap (-b) = -b := fun h => wrap_in (by unfold Val at *; omega)
    have w3 : Val a b → Fit (-a) ∧ Fit (-b) := fun h => by unfold Fit Val at *; omega
  all_goals (try (repeat' (first | exact rfl | apply eq_pair | apply eq_arc | apply eq_num | apply eq_dec | apply eq_no | apply eq_yes)))
  all_goals grind [gate, pick]
theorem c_r5inside (a b c d : Int) : Ans Tryd.prog Φ 17 [arc a b, arc c d] (.bool (decide (c ≤ a ∧ b ≤ d))) := by
  refine fn_by hst Sound.nil (vc_r5inside a b c d _) ?_
  simp only [bcase_iff, true_and, and_true, decide_eq_true_eq, decide_eq_false_iff_not, Bool.not_eq_true', Bool.not_eq_false', Bool.not_true, Bool.not_false, beq_iff_eq, beq_eq_false_iff_ne, bne_iff_ne, ne_eq, bne_eq_false_iff_eq, Decidable.not_not, ge_iff_le, gt_iff_lt, Bool.not_eq_true, Bool.and_eq_true, Bool.or_eq_true, forall_const, imp_false, implies_true, Bool.true_eq_false, Bool.false_eq_true, false_implies, true_implies, Int.not_lt, Int.not_le, Int.zero_sub]
  repeat' (first | intro _ | apply And.intro)
  all_goals (try (repeat' (first | exact rfl | apply eq_pair | apply eq_arc | apply eq_num | apply eq_dec | apply eq_no | apply eq_yes)))
  all_goals omega
theorem c_r5meets (a b c d : Int) : Ans Tryd.prog Φ 37 [arc a b, arc c d] (.bool (decide (a ≤ d ∧ c ≤ b))) := by
  refine fn_by hst Sound.nil (vc_r5meets a b c d _) ?_
  simp only [bcase_iff, true_and, and_true, decide_eq_true_eq, decide_eq_false_iff_not, Bool.not_eq_true', Bool.not_eq_false', Bool.not_true, Bool.not_false, beq_iff_eq, beq_eq_false_iff_ne, bne_iff_ne, ne_eq, bne_eq_false_iff_eq, Decidable.not_not, ge_iff_le, gt_iff_lt, Bool.not_eq_true, Bool.and_eq_true, Bool.or_eq_true, forall_const, imp_false, implies_true, Bool.true_eq_false, Bool.false_eq_true, false_implies, true_implies, Int.not_lt, Int.not_le, Int.zero_sub]
  repeat' (first | intro _ | apply And.intro)
  all_goals (try (repeat' (first | exact rfl | apply eq_pair | apply eq_arc | apply eq_num | apply eq_dec | apply eq_no | apply eq_yes)))
  all_goals omega
theorem c_r5hull (a b c d : Int) : Ans Tryd.prog Φ 36 [arc a b, arc c d] (arc (min a c) (max b d)) := by
  refine fn_by hst Sound.nil (vc_r5hull a b c d _) ?_
  simp only [bcase_iff, true_and, and_true, decide_eq_true_eq, decide_eq_false_iff_not, Bool.not_eq_true', Bool.not_eq_false', Bool.not_true, Bool.not_false, beq_iff_eq, beq_eq_false_iff_ne, bne_iff_ne, ne_eq, bne_eq_false_iff_eq, Decidable.not_not, ge_iff_le, gt_iff_lt, Bool.not_eq_true, Bool.and_eq_true, Bool.or_eq_true, forall_const, imp_false, implies_true, Bool.true_eq_false, Bool.false_eq_true, false_implies, true_implies, Int.not_lt, Int.not_le, Int.zero_sub]
  repeat' (first | intro _ | apply And.intro)
  all_goals (try (repeat' (first | exact rfl | apply eq_pair | apply eq_arc | apply eq_num | apply eq_dec | apply eq_no | apply eq_yes)))
  all_goals omega
theorem c_r5meet (a b c d : Int) : Ans Tryd.prog Φ 38 [arc a b, arc c d] (arc (max a c) (min b d)) := by
  refine fn_by hst Sound.nil (vc_r5meet a b c d _) ?_
  simp only [bcase_iff, true_and, and_true, decide_eq_true_eq, decide_eq_false_iff_not, Bool.not_eq_true', Bool.not_eq_false', Bool.not_true, Bool.not_false, beq_iff_eq, beq_eq_false_iff_ne, bne_iff_ne, ne_eq, bne_eq_false_iff_eq, Decidable.not_not, ge_iff_le, gt_iff_lt, Bool.not_eq_true, Bool.and_eq_true, Bool.or_eq_true, forall_const, imp_false, implies_true, Bool.true_eq_false, Bool.false_eq_true, false_implies, true_implies, Int.not_lt, Int.not_le, Int.zero_sub]
  repeat' (first | intro _ | apply And.intro)
  all_goals (try (repeat' (first | exact rfl | apply eq_pair | apply eq_arc | apply eq_num | apply eq_dec | apply eq_no | apply eq_yes)))
  all_goals omega
theorem c_r5add (a b c d : Int) (h : I64 (a + c) ∧ I64 (b + d)) : Ans Tryd.prog Φ 32 [arc a b, arc c d] (arc (a + c) (b + d)) := by
  refine fn_by hst Sound.nil (vc_r5add a b c d _) ?_
  rw [wrap_in h.1, wrap_in h.2]
theorem c_r5sub (a b c d : Int) (h : I64 (a - d) ∧ I64 (b - c)) : Ans Tryd.prog Φ 33 [arc a b, arc c d] (arc (a - d) (b - c)) := by
  refine fn_by hst Sound.nil (vc_r5sub a b c d _) ?_
  rw [wrap_in h.1, wrap_in h.2]
theorem c_r5neg (a b : Int) (h : I64 (-a) ∧ I64 (-b)) : Ans Tryd.prog Φ 29 [arc a b] (arc (-b) (-a)) := by
  refine fn_by hst Sound.nil (vc_r5neg a b _) ?_
  rw [Int.zero_sub, Int.zero_sub, wrap_in h.1, wrap_in h.2]
theorem c_one (n : Int) : Ans Tryd.prog Φ 25 [num n] (arc n n) := by
  refine fn_by hst Sound.nil (vc_one n _) ?_
  rfl
theorem s1 : Sound Tryd.prog Φ Γ1 := by
  unfold Γ1
  refine Sound.cons (by kernel_rfl) (fun args p v h _ => by unfold sR5Inside AA at h; split at h <;> cases h; exact c_r5inside hst _ _ _ _) ?_
  refine Sound.cons (by kernel_rfl) (fun args p v h _ => by unfold sR5Meets AA at h; split at h <;> cases h; exact c_r5meets hst _ _ _ _) ?_
  refine Sound.cons (by kernel_rfl) (fun args p v h _ => by unfold sR5Hull AA at h; split at h <;> cases h; exact c_r5hull hst _ _ _ _) ?_
  refine Sound.cons (by kernel_rfl) (fun args p v h _ => by unfold sR5Meet AA at h; split at h <;> cases h; exact c_r5meet hst _ _ _ _) ?_
  refine Sound.cons (by kernel_rfl) (fun args p v h hp => by unfold sR5Add AA at h; split at h <;> cases h; exact c_r5add hst _ _ _ _ hp) ?_
  refine Sound.cons (by kernel_rfl) (fun args p v h hp => by unfold sR5Sub AA at h; split at h <;> cases h; exact c_r5sub hst _ _ _ _ hp) ?_
  refine Sound.cons (by kernel_rfl) (fun args p v h hp => by unfold sR5Neg at h; split at h <;> cases h; exact c_r5neg hst _ _ hp) ?_
  refine Sound.cons (by kernel_rfl) (fun args p v h _ => by unfold sOne at h; split at h <;> cases h; exact c_one hst _) ?_
  refine Sound.cons (by kernel_rfl) (fun args p v h _ => by unfold sAdd at h; split at h <;> cases h; exact c_add hst _ _ _ _) ?_
  refine Sound.cons (by kernel_rfl) (fun args p v h _ => by unfold sNeg at h; split at h <;> cases h; exact c_neg hst _ _) ?_
  exact s0 hst
theorem c_sub (a b c d : Int) : Ans Tryd.prog Φ 26 [arc a b, arc c d] (pair (arc (gate (ok2 a b c d (a - d) (b - c)) (a - d)) (gate (ok2 a b c d (a - d) (b - c)) (b - c))) (num (er2 a b c d (a - d) (b - c)))) := by
  refine fn_by hst (s1 hst) (vc_sub a b c d _) ?_
  simp only [bcase_iff, true_and, and_true, decide_eq_true_eq, decide_eq_false_iff_not, Bool.not_eq_true', Bool.not_eq_false', Bool.not_true, Bool.not_false, beq_iff_eq, beq_eq_false_iff_ne, bne_iff_ne, ne_eq, bne_eq_false_iff_eq, Decidable.not_not, ge_iff_le, gt_iff_lt, Bool.not_eq_true, Bool.and_eq_true, Bool.or_eq_true, forall_const, imp_false, implies_true, Bool.true_eq_false, Bool.false_eq_true, false_implies, true_implies, Int.not_lt, Int.not_le, Int.zero_sub]
  by_cases h : Val c d
  · have h' : Val (-d) (-c) := by unfold Val at *; omega
    simp only [pick, gate, h, if_true, true_and]
    refine ⟨fun q => (q trivial).elim, fun _ => ?_⟩
    all_goals (try (repeat' (first | exact rfl | apply eq_pair | apply eq_arc | apply eq_num | apply eq_dec | apply eq_no | apply eq_yes)))
    all_goals simp only [ok2, er2, h, h', true_and, and_true, Int.sub_eq_add_neg]
  · simp only [pick, gate, h, if_false]
    refine ⟨fun _ => ?_, fun q => by omega⟩
    all_goals (try (repeat' (first | exact rfl | apply eq_pair | apply eq_arc | apply eq_num | apply eq_dec | apply eq_no | apply eq_yes)))
    all_goals simp [ok2, er2, h]
theorem c_times (a b m d : Int) : Ans Tryd.prog Φ 28 [arc a b, num m, num d] (pair (arc (gate (okT a b m d) (tLo a b m d)) (gate (okT a b m d) (tHi a b m d))) (num (erT a b m d))) := by
  refine fn_by hst (s0 hst) (vc_times a b m d _) ?_
  by_cases hv : Val a b
  · by_cases hf : Frac m d
    · have hv' := hv
      have hf' := hf
      unfold Val at hv'
      unfold Frac at hf'
      have ba := mul_bd (x := a) (X := 1099511627776) (y := m) (Y := 1048576) (by omega) (by omega)
      have bb := mul_bd (x := b) (X := 1099511627776) (y := m) (Y := 1048576) (by omega) (by omega)
      have wa : IntKind.i64.wrap (a * m) = a * m := wrap_in (by omega)
      have wb : IntKind.i64.wrap (b * m) = b * m := wrap_in (by omega)
      have e1 : (if b * m < a * m then b * m else a * m) = min (a * m) (b * m) := by rw [Int.min_def]; split <;> split <;> omega
      have e2 : (if b * m > a * m then b * m else a * m) = max (a * m) (b * m) := by rw [Int.max_def]; split <;> split <;> omega
      have l1 : -1152921504606846976 ≤ min (a * m) (b * m) ∧ min (a * m) (b * m) ≤ 1152921504606846976 := by omega
      have l2 : -1152921504606846976 ≤ max (a * m) (b * m) ∧ max (a * m) (b * m) ≤ 1152921504606846976 := by omega
      have wn : IntKind.i64.wrap (0 - max (a * m) (b * m)) = -max (a * m) (b * m) := by rw [wrap_in (by omega)]; omega
      have q1 := ediv_bd (a := -max (a * m) (b * m)) (b := d) (lo := -1152921504606846976) (hi := 1152921504606846976) (by omega) (by omega) (by omega) (by omega) (by omega)
      have wm : IntKind.i64.wrap (0 - -max (a * m) (b * m) / d) = tHi a b m d := by rw [wrap_in (by omega)]; unfold tHi; omega
      simp only [wa, wb, e1, e2, wn, wm]
      simp only [bcase_iff, true_and, and_true, decide_eq_true_eq, decide_eq_false_iff_not, Bool.not_eq_true', Bool.not_eq_false', Bool.not_true, Bool.not_false, beq_iff_eq, beq_eq_false_iff_ne, bne_iff_ne, ne_eq, bne_eq_false_iff_eq, Decidable.not_not, ge_iff_le, gt_iff_lt, Bool.not_eq_true, Bool.and_eq_true, Bool.or_eq_true, forall_const, imp_false, implies_true, Bool.true_eq_false, Bool.false_eq_true, false_implies, true_implies, Int.not_lt, Int.not_le, Int.zero_sub]
      refine ⟨fun h => absurd hv h, fun _ => ⟨fun h => by omega, fun _ => ⟨fun h => by omega, fun _ => ⟨fun h => by omega, fun _ => ⟨fun h => by omega, fun _ => ⟨⟨by unfold I64; omega, by unfold Den; omega⟩, ⟨by unfold I64; omega, by unfold Den; omega⟩, ?_⟩⟩⟩⟩⟩⟩
      have ht : min (a * m) (b * m) / d = tLo a b m d := rfl
      simp only [ht]
      all_goals (try (repeat' (first | exact rfl | apply eq_pair | apply eq_arc | apply eq_num | apply eq_dec | apply eq_no | apply eq_yes)))
      all_goals simp only [okT, erT, gate, pick, hv, hf, if_true, true_and]
    · simp only [bcase_iff, true_and, and_true, decide_eq_true_eq, decide_eq_false_iff_not, Bool.not_eq_true', Bool.not_eq_false', Bool.not_true, Bool.not_false, beq_iff_eq, beq_eq_false_iff_ne, bne_iff_ne, ne_eq, bne_eq_false_iff_eq, Decidable.not_not, ge_iff_le, gt_iff_lt, Bool.not_eq_true, Bool.and_eq_true, Bool.or_eq_true, forall_const, imp_false, implies_true, Bool.true_eq_false, Bool.false_eq_true, false_implies, true_implies, Int.not_lt, Int.not_le, Int.zero_sub]
      refine ⟨fun h => absurd hv h, fun _ => ⟨fun h => ?_, fun _ => ⟨fun h => ?_, fun _ => ⟨fun h => ?_, fun _ => ⟨fun h => ?_, fun _ => (hf (by unfold Frac; omega)).elim⟩⟩⟩⟩⟩
      all_goals (try (repeat' (first | exact rfl | apply eq_pair | apply eq_arc | apply eq_num | apply eq_dec | apply eq_no | apply eq_yes)))
      all_goals simp [okT, erT, gate, hv, hf]
  · simp only [bcase_iff, true_and, and_true, decide_eq_true_eq, decide_eq_false_iff_not, Bool.not_eq_true', Bool.not_eq_false', Bool.not_true, Bool.not_false, beq_iff_eq, beq_eq_false_iff_ne, bne_iff_ne, ne_eq, bne_eq_false_iff_eq, Decidable.not_not, ge_iff_le, gt_iff_lt, Bool.not_eq_true, Bool.and_eq_true, Bool.or_eq_true, forall_const, imp_false, implies_true, Bool.true_eq_false, Bool.false_eq_true, false_implies, true_implies, Int.not_lt, Int.not_le, Int.zero_sub]
    refine ⟨fun h => ?_, fun h => absurd h hv⟩
    all_goals (try (repeat' (first | exact rfl | apply eq_pair | apply eq_arc | apply eq_num | apply eq_dec | apply eq_no | apply eq_yes)))
    all_goals simp [okT, erT, gate, hv]
theorem c_hull (a b c d : Int) : Ans Tryd.prog Φ 34 [arc a b, arc c d] (pair (arc (gate (two a b c d) (min a c)) (gate (two a b c d) (max b d))) (num (pick (two a b c d) 0 1))) := by
  refine fn_by hst (s0 hst) (vc_hull a b c d _) ?_
  simp only [bcase_iff, true_and, and_true, decide_eq_true_eq, decide_eq_false_iff_not, Bool.not_eq_true', Bool.not_eq_false', Bool.not_true, Bool.not_false, beq_iff_eq, beq_eq_false_iff_ne, bne_iff_ne, ne_eq, bne_eq_false_iff_eq, Decidable.not_not, ge_iff_le, gt_iff_lt, Bool.not_eq_true, Bool.and_eq_true, Bool.or_eq_true, forall_const, imp_false, implies_true, Bool.true_eq_false, Bool.false_eq_true, false_implies, true_implies, Int.not_lt, Int.not_le, Int.zero_sub]
  repeat' (first | intro _ | apply And.intro)
  all_goals (try (repeat' (first | exact rfl | apply eq_pair | apply eq_arc | apply eq_num | apply eq_dec | apply eq_no | apply eq_yes)))
  all_goals grind [gate, two, pick]
theorem c_meet (a b c d : Int) : Ans Tryd.prog Φ 35 [arc a b, arc c d] (pair (arc (gate (meets a b c d) (max a c)) (gate (meets a b c d) (min b d))) (num (pick (two a b c d) (pick (max a c ≤ min b d) 0 23) 1))) := by
  refine fn_by hst (s0 hst) (vc_meet a b c d _) ?_
  simp only [bcase_iff, true_and, and_true, decide_eq_true_eq, decide_eq_false_iff_not, Bool.not_eq_true', Bool.not_eq_false', Bool.not_true, Bool.not_false, beq_iff_eq, beq_eq_false_iff_ne, bne_iff_ne, ne_eq, bne_eq_false_iff_eq, Decidable.not_not, ge_iff_le, gt_iff_lt, Bool.not_eq_true, Bool.and_eq_true, Bool.or_eq_true, forall_const, imp_false, implies_true, Bool.true_eq_false, Bool.false_eq_true, false_implies, true_implies, Int.not_lt, Int.not_le, Int.zero_sub]
  repeat' (first | intro _ | apply And.intro)
  all_goals (try (repeat' (first | exact rfl | apply eq_pair | apply eq_arc | apply eq_num | apply eq_dec | apply eq_no | apply eq_yes)))
  all_goals grind [gate, two, meets, pick]
theorem c_turn (a b : Int) : Ans Tryd.prog Φ 20 [arc a b] (pair (arc (dLo a b) (dHi a b)) (num (pick (Val a b) 0 1))) := by
  refine fn_by hst (s0 hst) (vc_turn a b _) ?_
  simp only [bcase_iff, true_and, and_true, decide_eq_true_eq, decide_eq_false_iff_not, Bool.not_eq_true', Bool.not_eq_false', Bool.not_true, Bool.not_false, beq_iff_eq, beq_eq_false_iff_ne, bne_iff_ne, ne_eq, bne_eq_false_iff_eq, Decidable.not_not, ge_iff_le, gt_iff_lt, Bool.not_eq_true, Bool.and_eq_true, Bool.or_eq_true, forall_const, imp_false, implies_true, Bool.true_eq_false, Bool.false_eq_true, false_implies, true_implies, Int.not_lt, Int.not_le, Int.zero_sub]
  have h1 := Int.emod_nonneg a (b := 21600000) (by omega)
  have h2 := Int.emod_lt_of_pos a (b := 21600000) (by omega)
  by_cases hv : Val a b
  · have hv' := hv
    unfold Val at hv'
    have w1 : IntKind.i64.wrap (b - a) = b - a := wrap_in (by omega)
    simp only [w1, dLo, dHi, pick, hv, if_true]
    refine ⟨fun h => (h trivial).elim, fun _ => ⟨fun h => ?_, fun h => ?_⟩⟩
    · rw [if_neg (by omega), if_neg (by omega)]
    · rw [if_pos (by omega), if_pos (by omega), wrap_in (by omega)]
  · simp only [dLo, dHi, pick, hv, if_false]
    simp
theorem c_r5turn (a b : Int) (hv : Val a b) : Ans Tryd.prog Φ 22 [arc a b] (arc (dLo a b) (dHi a b)) := by
  refine fn_by hst (s0 hst) (vc_r5turn a b _) ?_
  simp only [bcase_iff, true_and, and_true, decide_eq_true_eq, decide_eq_false_iff_not, Bool.not_eq_true', Bool.not_eq_false', Bool.not_true, Bool.not_false, beq_iff_eq, beq_eq_false_iff_ne, bne_iff_ne, ne_eq, bne_eq_false_iff_eq, Decidable.not_not, ge_iff_le, gt_iff_lt, Bool.not_eq_true, Bool.and_eq_true, Bool.or_eq_true, forall_const, imp_false, implies_true, Bool.true_eq_false, Bool.false_eq_true, false_implies, true_implies, Int.not_lt, Int.not_le, Int.zero_sub]
  have h1 := Int.emod_nonneg a (b := 21600000) (by omega)
  have h2 := Int.emod_lt_of_pos a (b := 21600000) (by omega)
  have hv' := hv
  unfold Val at hv'
  have w1 : IntKind.i64.wrap (b - a) = b - a := wrap_in (by omega)
  simp only [w1, dLo, dHi, hv, if_true]
  refine ⟨fun h => ?_, fun h => ?_⟩
  · rw [if_neg (by omega), if_neg (by omega)]
  · rw [if_pos (by omega), if_pos (by omega), wrap_in (by omega)]
theorem c_agree (a b c d : Int) : Ans Tryd.prog Φ 21 [arc a b, arc c d] (pair (.bool (decide (agree a b c d))) (num (pick (two a b c d) 0 1))) := by
  refine fn_by hst (s0 hst) (vc_agree a b c d _) ?_
  simp only [bcase_iff, true_and, and_true, decide_eq_true_eq, decide_eq_false_iff_not, Bool.not_eq_true', Bool.not_eq_false', Bool.not_true, Bool.not_false, beq_iff_eq, beq_eq_false_iff_ne, bne_iff_ne, ne_eq, bne_eq_false_iff_eq, Decidable.not_not, ge_iff_le, gt_iff_lt, Bool.not_eq_true, Bool.and_eq_true, Bool.or_eq_true, forall_const, imp_false, implies_true, Bool.true_eq_false, Bool.false_eq_true, false_implies, true_implies, Int.not_lt, Int.not_le, Int.zero_sub]
  repeat' (first | intro _ | apply And.intro)
  all_goals
    have w1 : Val a b → Val c d → IntKind.i64.wrap (a - c) = a - c := fun h k => wrap_in (by unfold Val at *; omega)
    have w2 : Val a b → Val c d → IntKind.i64.wrap (c - a) = c - a := fun h k => wrap_in (by unfold Val at *; omega)
    have w3 : Val a b → IntKind.i64.wrap (b - a) = b - a := fun h => wrap_in (by unfold Val at *; omega)
    have w4 : Val c d → IntKind.i64.wrap (d - c) = d - c := fun h => wrap_in (by unfold Val at *; omega)
  all_goals (try (repeat' (first | exact rfl | apply eq_pair | apply eq_arc | apply eq_num | apply eq_dec | apply eq_no | apply eq_yes)))
  all_goals grind [agree, two, pick]
theorem c_r5times0 (a b m d : Int) (hv : Val a b) (hf : Frac m d) (hm : 0 ≤ m) : Ans Tryd.prog Φ 30 [arc a b, num m, num d] (arc (tLo a b m d) (tHi a b m d)) := by
  have sf : Sound Tryd.prog Φ ((30, .v sFalse) :: Γ0) := Sound.cons (by kernel_rfl) (fun args p v h hp => by unfold sFalse at h; cases h; exact hp.elim) (s0 hst)
  refine fn_by hst sf (vc_r5times0 a b m d _) ?_
  have hv' := hv
  have hf' := hf
  unfold Val at hv'
  unfold Frac at hf'
  have ba := mul_bd (x := a) (X := 1099511627776) (y := m) (Y := 1048576) (by omega) (by omega)
  have bb := mul_bd (x := b) (X := 1099511627776) (y := m) (Y := 1048576) (by omega) (by omega)
  have hab : a * m ≤ b * m := Int.mul_le_mul_of_nonneg_right (by omega) hm
  have wa : IntKind.i64.wrap (a * m) = a * m := wrap_in (by omega)
  have wb : IntKind.i64.wrap (b * m) = b * m := wrap_in (by omega)
  have q1 := ediv_bd (a := -(b * m)) (b := d) (lo := -1152921504606846976) (hi := 1152921504606846976) (by omega) (by omega) (by omega) (by omega) (by omega)
  have e1 : tLo a b m d = a * m / d := by unfold tLo; rw [Int.min_eq_left hab]
  have e2 : tHi a b m d = -(-(b * m) / d) := by unfold tHi; rw [Int.max_eq_right hab]
  simp only [wa, wb, e1, e2]
  simp only [bcase_iff, true_and, and_true, decide_eq_true_eq, decide_eq_false_iff_not, Bool.not_eq_true', Bool.not_eq_false', Bool.not_true, Bool.not_false, beq_iff_eq, beq_eq_false_iff_ne, bne_iff_ne, ne_eq, bne_eq_false_iff_eq, Decidable.not_not, ge_iff_le, gt_iff_lt, Bool.not_eq_true, Bool.and_eq_true, Bool.or_eq_true, forall_const, imp_false, implies_true, Bool.true_eq_false, Bool.false_eq_true, false_implies, true_implies, Int.not_lt, Int.not_le, Int.zero_sub]
  repeat' (first | intro _ | apply And.intro)
  all_goals (first | omega | (unfold I64; omega) | (unfold Den; omega))
theorem c_r5times (a b m d : Int) (hv : Val a b) (hf : Frac m d) : Ans Tryd.prog Φ 30 [arc a b, num m, num d] (arc (tLo a b m d) (tHi a b m d)) := by
  have sf : Sound Tryd.prog Φ ((30, .v sR5TimesPos) :: Γ0) := Sound.cons (by kernel_rfl) (fun args p v h hp => by unfold sR5TimesPos at h; split at h <;> cases h; exact c_r5times0 hst _ _ _ _ hp.1 hp.2.1 hp.2.2) (s0 hst)
  by_cases hm : 0 ≤ m
  · exact c_r5times0 hst a b m d hv hf hm
  refine fn_by hst sf (vc_r5times1 a b m d _) ?_
  have hv' := hv
  have hf' := hf
  unfold Val at hv'
  unfold Frac at hf'
  have w1 : IntKind.i64.wrap (0 - b) = -b := by rw [wrap_in (by omega)]; omega
  have w2 : IntKind.i64.wrap (0 - a) = -a := by rw [wrap_in (by omega)]; omega
  have w3 : IntKind.i64.wrap (0 - m) = -m := by rw [wrap_in (by omega)]; omega
  have e1 : tLo (-b) (-a) (-m) d = tLo a b m d := by unfold tLo; rw [Int.neg_mul_neg, Int.neg_mul_neg, Int.min_comm]
  have e2 : tHi (-b) (-a) (-m) d = tHi a b m d := by unfold tHi; rw [Int.neg_mul_neg, Int.neg_mul_neg, Int.max_comm]
  simp only [w1, w2, w3, e1, e2]
  simp only [bcase_iff, true_and, and_true, decide_eq_true_eq, decide_eq_false_iff_not, Bool.not_eq_true', Bool.not_eq_false', Bool.not_true, Bool.not_false, beq_iff_eq, beq_eq_false_iff_ne, bne_iff_ne, ne_eq, bne_eq_false_iff_eq, Decidable.not_not, ge_iff_le, gt_iff_lt, Bool.not_eq_true, Bool.and_eq_true, Bool.or_eq_true, forall_const, imp_false, implies_true, Bool.true_eq_false, Bool.false_eq_true, false_implies, true_implies, Int.not_lt, Int.not_le, Int.zero_sub]
  repeat' (first | intro _ | apply And.intro)
  all_goals (first | omega | (unfold Val; omega) | (unfold Frac; omega))
end Go.Proofs.YtcejlhgjcoidpaaDoor
