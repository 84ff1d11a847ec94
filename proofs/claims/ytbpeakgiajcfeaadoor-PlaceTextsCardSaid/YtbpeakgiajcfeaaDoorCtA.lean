/- Contracts of the functions of angle over numbers and arcs. -/
import Derived.Test.YtbpeakgiajcfeaaDoorVcA
namespace Go.Proofs.YtbpeakgiajcfeaaDoor
open Go Go.Abs Go.RowKit
set_option linter.unusedVariables false
set_option linter.unusedSimpArgs false
theorem eq_pair {a b c d : Value} (h : a = c) (k : b = d) : Value.tuple #[a, b] = pair c d := by rw [h, k]
theorem eq_arc {a b c d : Int} (h : a = c) (k : b = d) : Value.agg #[.int .i64 a, .int .i64 b] = arc c d := by rw [h, k]
theorem eq_num {k : IntKind} {a b : Int} (h : a = b) : Value.int k a = .int k b := by rw [h]
theorem eq_bool {a b : Bool} (h : a = b) : Value.bool a = .bool b := by rw [h]
theorem eq_dec {p q : Prop} [Decidable p] [Decidable q] (h : p ↔ q) : Value.bool (decide p) = .bool (decide q) := by simp [h]
theorem eq_yes {p : Prop} [Decidable p] (h : p) : Value.bool true = .bool (decide p) := by simp [h]
theorem eq_no {p : Prop} [Decidable p] (h : ¬ p) : Value.bool false = .bool (decide p) := by simp [h]
theorem tmod_case (n t : Int) (h : 0 < t) : (n.tmod t < 0 ∧ n.tmod t = n % t - t) ∨ (0 ≤ n.tmod t ∧ n.tmod t = n % t) := by
  have h1 := Int.emod_nonneg n (b := t) (by omega)
  have h2 := Int.emod_lt_of_pos n h
  rw [Int.tmod_eq_emod]
  split <;> omega
theorem tdiv_case (n t : Int) (h : 0 < t) : (n.tmod t < 0 ∧ n.tdiv t = n / t + 1) ∨ (0 ≤ n.tmod t ∧ n.tdiv t = n / t) := by
  have e1 := Int.mul_tdiv_add_tmod n t
  have e2 := Int.mul_ediv_add_emod n t
  rcases tmod_case n t h with ⟨c, e⟩ | ⟨c, e⟩
  · refine .inl ⟨c, ?_⟩
    have : t * n.tdiv t = t * (n / t + 1) := by rw [Int.mul_add]; omega
    exact Int.eq_of_mul_eq_mul_left (by omega) this
  · refine .inr ⟨c, ?_⟩
    have : t * n.tdiv t = t * (n / t) := by omega
    exact Int.eq_of_mul_eq_mul_left (by omega) this
variable {Φ : World → Prop} (hst : ∀ w w', Φ w → Below w.heap.size w w' → Φ w')
include hst

theorem c_fits (n : Int) : Ans Tryd.prog Φ 39 [num n] (.bool (decide (Fit n))) := by
  refine fn_by hst Sound.nil (vc_fits n _) ?_
  simp only [bcase_iff, true_and, and_true, decide_eq_true_eq, decide_eq_false_iff_not, Bool.not_eq_true', Bool.not_eq_false', Bool.not_true, Bool.not_false, beq_iff_eq, beq_eq_false_iff_ne, bne_iff_ne, ne_eq, bne_eq_false_iff_eq, Decidable.not_not, ge_iff_le, gt_iff_lt, Bool.not_eq_true, Bool.and_eq_true, Bool.or_eq_true, forall_const, imp_false, implies_true, Bool.true_eq_false, Bool.false_eq_true, false_implies, true_implies, Int.not_lt, Int.not_le, Int.zero_sub]
  repeat' (first | intro _ | apply And.intro)
  all_goals (try (repeat' (first | exact rfl | apply eq_pair | apply eq_arc | apply eq_num | apply eq_dec | apply eq_no | apply eq_yes)))
  all_goals unfold Fit; omega
theorem s_fits : Sound Tryd.prog Φ [(39, .v sFits)] :=
  Sound.cons (by kernel_rfl) (fun args p v h _ => by unfold sFits at h; split at h <;> cases h; exact c_fits hst _) Sound.nil
theorem c_valid (a b : Int) : Ans Tryd.prog Φ 37 [arc a b] (.bool (decide (Val a b))) := by
  refine fn_by hst (s_fits hst) (vc_valid a b _) ?_
  simp only [bcase_iff, true_and, and_true, decide_eq_true_eq, decide_eq_false_iff_not, Bool.not_eq_true', Bool.not_eq_false', Bool.not_true, Bool.not_false, beq_iff_eq, beq_eq_false_iff_ne, bne_iff_ne, ne_eq, bne_eq_false_iff_eq, Decidable.not_not, ge_iff_le, gt_iff_lt, Bool.not_eq_true, Bool.and_eq_true, Bool.or_eq_true, forall_const, imp_false, implies_true, Bool.true_eq_false, Bool.false_eq_true, false_implies, true_implies, Int.not_lt, Int.not_le, Int.zero_sub]
  repeat' (first | intro _ | apply And.intro)
  all_goals (try (repeat' (first | exact rfl | apply eq_pair | apply eq_arc | apply eq_num | apply eq_dec | apply eq_no | apply eq_yes)))
  all_goals (unfold Val; (try unfold Fit at *); omega)
theorem c_wrap (n : Int) : Ans Tryd.prog Φ 59 [num n] (num (n % 21600000)) := by
  refine fn_by hst Sound.nil (vc_wrap n _) ?_
  simp only [bcase_iff, true_and, and_true, decide_eq_true_eq, decide_eq_false_iff_not, Bool.not_eq_true', Bool.not_eq_false', Bool.not_true, Bool.not_false, beq_iff_eq, beq_eq_false_iff_ne, bne_iff_ne, ne_eq, bne_eq_false_iff_eq, Decidable.not_not, ge_iff_le, gt_iff_lt, Bool.not_eq_true, Bool.and_eq_true, Bool.or_eq_true, forall_const, imp_false, implies_true, Bool.true_eq_false, Bool.false_eq_true, false_implies, true_implies, Int.not_lt, Int.not_le, Int.zero_sub]
  have h1 := Int.emod_nonneg n (b := 21600000) (by omega)
  have h2 := Int.emod_lt_of_pos n (b := 21600000) (by omega)
  rcases tmod_case n 21600000 (by omega) with ⟨c, e⟩ | ⟨c, e⟩ <;> refine ⟨fun _ => eq_num ?_, fun _ => eq_num ?_⟩ <;> (try omega)
  rw [wrap_in (by omega)]; omega
omit hst in
theorem quo_bd {n d : Int} (hn : I64 n) (hd : 1 ≤ d) : I64 (n / d) := ediv_bd hd hn.1 hn.2 (by omega) (by omega)
theorem c_floor (n d : Int) (hn : I64 n) (hd : 1 ≤ d) (hd2 : d ≤ 9223372036854775807) : Ans Tryd.prog Φ 38 [num n, num d] (num (n / d)) := by
  refine fn_by hst Sound.nil (vc_floor n d _) ?_
  simp only [bcase_iff, true_and, and_true, decide_eq_true_eq, decide_eq_false_iff_not, Bool.not_eq_true', Bool.not_eq_false', Bool.not_true, Bool.not_false, beq_iff_eq, beq_eq_false_iff_ne, bne_iff_ne, ne_eq, bne_eq_false_iff_eq, Decidable.not_not, ge_iff_le, gt_iff_lt, Bool.not_eq_true, Bool.and_eq_true, Bool.or_eq_true, forall_const, imp_false, implies_true, Bool.true_eq_false, Bool.false_eq_true, false_implies, true_implies, Int.not_lt, Int.not_le, Int.zero_sub]
  have hq := quo_bd hn hd
  have hn0 := hn
  unfold I64 at hq hn
  have h0 : n / d + 1 ≤ 9223372036854775807 ∨ 0 ≤ n.tmod d := by
    by_cases q : n < 0
    · have h4 := Int.ediv_neg_of_neg_of_pos q (by omega : 0 < d); omega
    · exact .inr (Int.tmod_nonneg d (by omega))
  refine ⟨by omega, fun _ => ⟨by omega, fun _ => ?_⟩⟩
  rcases tdiv_case n d (by omega) with ⟨c, e⟩ | ⟨c, e⟩ <;> refine ⟨fun _ => eq_num ?_, fun _ => eq_num ?_⟩ <;> (try omega)
  · rw [e, wrap_in (n := n / d + 1) (by omega), wrap_in (by omega)]; omega
  · rw [e, wrap_in (by omega)]
theorem c_r5floor (n d : Int) (hn : I64 n) (hd : 1 ≤ d) (hd2 : d ≤ 9223372036854775807) : Ans Tryd.prog Φ 58 [num n, num d] (num (n / d)) := by
  refine fn_by hst Sound.nil (vc_r5floor n d _) ?_
  simp only [bcase_iff, true_and, and_true, decide_eq_true_eq, decide_eq_false_iff_not, Bool.not_eq_true', Bool.not_eq_false', Bool.not_true, Bool.not_false, beq_iff_eq, beq_eq_false_iff_ne, bne_iff_ne, ne_eq, bne_eq_false_iff_eq, Decidable.not_not, ge_iff_le, gt_iff_lt, Bool.not_eq_true, Bool.and_eq_true, Bool.or_eq_true, forall_const, imp_false, implies_true, Bool.true_eq_false, Bool.false_eq_true, false_implies, true_implies, Int.not_lt, Int.not_le, Int.zero_sub]
  have hq := quo_bd hn hd
  have hn0 := hn
  unfold I64 at hq hn
  have h0 : n / d + 1 ≤ 9223372036854775807 ∨ 0 ≤ n.tmod d := by
    by_cases q : n < 0
    · have h4 := Int.ediv_neg_of_neg_of_pos q (by omega : 0 < d); omega
    · exact .inr (Int.tmod_nonneg d (by omega))
  refine ⟨by omega, fun _ => ⟨by omega, fun _ => ?_⟩⟩
  rcases tdiv_case n d (by omega) with ⟨c, e⟩ | ⟨c, e⟩ <;> refine ⟨fun _ => eq_num ?_, fun _ => eq_num ?_⟩ <;> (try omega)
  · rw [e, wrap_in (n := n / d + 1) (by omega), wrap_in (by omega)]; omega
  · rw [e, wrap_in (by omega)]
theorem s0 : Sound Tryd.prog Φ Γ0 := by
  unfold Γ0
  refine Sound.cons (by kernel_rfl) (fun args p v h _ => by unfold sFits at h; split at h <;> cases h; exact c_fits hst _) ?_
  refine Sound.cons (by kernel_rfl) (fun args p v h _ => by unfold sVal at h; split at h <;> cases h; exact c_valid hst _ _) ?_
  refine Sound.cons (by kernel_rfl) (fun args p v h _ => by unfold sWrap at h; split at h <;> cases h; exact c_wrap hst _) ?_
  refine Sound.cons (by kernel_rfl) (fun args p v h hp => by unfold sFloor at h; split at h <;> cases h; exact c_floor hst _ _ hp.1 hp.2.1 hp.2.2) ?_
  refine Sound.cons (by kernel_rfl) (fun args p v h hp => by unfold sFloor at h; split at h <;> cases h; exact c_r5floor hst _ _ hp.1 hp.2.1 hp.2.2) ?_
  exact Sound.nil
end Go.Proofs.YtbpeakgiajcfeaaDoor
