/- The law AngleUndoes returns true for every input. -/
import Derived.Test.YtcejlhgjcoidpaaDoorCtC
namespace Go.Proofs.YtcejlhgjcoidpaaDoor
open Go Go.Abs Go.RowKit
set_option linter.unusedVariables false
set_option linter.unusedSimpArgs false
theorem t_le' (a b D : Int) (h : a ≤ b) (hD : 0 < D) : a / D ≤ -(-b / D) := by
  have h1 : a / D ≤ b / D := Int.ediv_le_ediv hD h
  have h2 := neg_floor (a := b) (b := D) hD
  rw [h2]
  split <;> omega
theorem law_undoes (a b c d n : Int) (hn : 0 ≤ n ∧ n ≤ 65535) : Ans Tryd.prog Tabs 8 [arc a b, arc c d, .int .u16 n] (.bool true) := by
  refine fn_by st_tabs s5 (vc_lawUndoes a b c d n _) ?_
  have wn : IntKind.i64.wrap n = n := wrap_in (by omega)
  have wd : IntKind.i64.wrap (1 + n) = 1 + n := wrap_in (by omega)
  simp only [wn, wd]
  generalize hD : 1 + n = D
  simp only [bcase_iff, true_and, and_true, decide_eq_true_eq, decide_eq_false_iff_not, Bool.not_eq_true', Bool.not_eq_false', Bool.not_true, Bool.not_false, beq_iff_eq, beq_eq_false_iff_ne, bne_iff_ne, ne_eq, bne_eq_false_iff_eq, Decidable.not_not, ge_iff_le, gt_iff_lt, Bool.not_eq_true, Bool.and_eq_true, Bool.or_eq_true, forall_const, imp_false, implies_true, Bool.true_eq_false, Bool.false_eq_true, false_implies, true_implies, Int.not_lt, Int.not_le, Int.zero_sub]
  intro h1 h2 h3 h4 h5 h6
  have hv : Val a b := by unfold Val; omega
  have kv : Val c d := by unfold Val; omega
  have o1 : ok2 a b c d (a + c) (b + d) := ⟨hv, kv, by unfold Fit; omega, by unfold Fit; omega⟩
  have e1 : er2 a b c d (a + c) (b + d) = 0 := by unfold er2; simp only [hv, kv, o1.2.2.1, o1.2.2.2, and_self, if_true]
  have sv : Val (a + c) (b + d) := by unfold Val; omega
  have o2 : ok2 (a + c) (b + d) c d (a + c - d) (b + d - c) := ⟨sv, kv, by unfold Fit; omega, by unfold Fit; omega⟩
  have e2 : er2 (a + c) (b + d) c d (a + c - d) (b + d - c) = 0 := by unfold er2; simp only [sv, kv, o2.2.2.1, o2.2.2.2, and_self, if_true]
  have nv : Val (-b) (-a) := by unfold Val; omega
  have yv : Val (a + c - d) (b + d - c) := by unfold Val; omega
  have f1 : Frac 1 D := by unfold Frac; omega
  have f2 : Frac D 1 := by unfold Frac; omega
  have d1 := Int.mul_ediv_add_emod a D
  have d2 := Int.mul_ediv_add_emod (-b) D
  have m1 := Int.emod_nonneg a (b := D) (by omega)
  have m2 := Int.emod_lt_of_pos a (b := D) (by omega)
  have m3 := Int.emod_nonneg (-b) (b := D) (by omega)
  have m4 := Int.emod_lt_of_pos (-b) (b := D) (by omega)
  have t1 : tLo a b 1 D = a / D := by unfold tLo; rw [Int.mul_one, Int.mul_one, Int.min_eq_left (by omega)]
  have t2 : tHi a b 1 D = -(-b / D) := by unfold tHi; rw [Int.mul_one, Int.mul_one, Int.max_eq_right (by omega)]
  have b1 := ediv_bd (a := a) (b := D) (lo := -274877906944) (hi := 274877906944) (by omega) (by omega) (by omega) (by omega) (by omega)
  have b2 := ediv_bd (a := -b) (b := D) (lo := -274877906944) (hi := 274877906944) (by omega) (by omega) (by omega) (by omega) (by omega)
  have c1 : D * (a / D) = a / D * D := Int.mul_comm _ _
  have c2 : D * (-b / D) = -(-(-b / D) * D) := by rw [Int.neg_mul, Int.neg_neg, Int.mul_comm]
  have le : a / D ≤ -(-b / D) := t_le' a b D (by omega) (by omega)
  generalize a / D = q1 at *
  generalize hq2 : -(-b / D) = q2 at *
  have uv : Val q1 q2 := by unfold Val; omega
  have o3 : okT a b 1 D := ⟨hv, f1, by rw [t1]; unfold Fit; omega, by rw [t2]; unfold Fit; omega⟩
  have e3 : erT a b 1 D = 0 := by unfold erT; simp only [hv, f1, o3.2.2.1, o3.2.2.2, and_self, if_true]
  have hmul : q1 * D ≤ q2 * D := Int.mul_le_mul_of_nonneg_right le (by omega)
  have t3 : tLo q1 q2 D 1 = q1 * D := by unfold tLo; rw [Int.ediv_one, Int.min_eq_left hmul]
  have t4 : tHi q1 q2 D 1 = q2 * D := by unfold tHi; rw [Int.ediv_one, Int.max_eq_right hmul, Int.neg_neg]
  have o4 : okT q1 q2 D 1 := ⟨uv, f2, by rw [t3]; unfold Fit; omega, by rw [t4]; unfold Fit; omega⟩
  have e4 : erT q1 q2 D 1 = 0 := by unfold erT; simp only [uv, f2, o4.2.2.1, o4.2.2.2, and_self, if_true]
  have vv : Val (q1 * D) (q2 * D) := by unfold Val; omega
  have w1 : IntKind.i64.wrap (q2 * D - q1 * D) = q2 * D - q1 * D := wrap_in (by omega)
  have w2 : IntKind.i64.wrap (b - a) = b - a := wrap_in (by omega)
  have w3 : IntKind.i64.wrap (2 * D) = 2 * D := wrap_in (by omega)
  have w4 : IntKind.i64.wrap (b - a + 2 * D) = b - a + 2 * D := wrap_in (by omega)
  simp only [gate, pick, hv, kv, o1, e1, sv, o2, e2, nv, yv, t1, t2, o3, e3, t3, t4, o4, e4, vv, w1, w2, w3, w4, if_true, Int.neg_neg]
  simp
  omega
end Go.Proofs.YtcejlhgjcoidpaaDoor
