/- The law AngleDirections returns true for every input. -/
import Derived.Test.YtcejlhgjcoidpaaDoorCtC
import Derived.Test.YtcejlhgjcoidpaaDoorVcD
namespace Go.Proofs.YtcejlhgjcoidpaaDoor
open Go Go.Abs Go.RowKit
set_option linter.unusedVariables false
set_option linter.unusedSimpArgs false
theorem law_dirs (a b c d t z : Int) (ht : -32768 ≤ t ∧ t ≤ 32767) (hz : 0 ≤ z ∧ z ≤ 4294967295) : Ans Tryd.prog Tabs 5 [arc a b, arc c d, .int .i16 t, .int .u32 z] (.bool true) := by
  refine fn_by st_tabs s5 (vc_lawDirections a b c d t z _) ?_
  have wt : IntKind.i64.wrap t = t := wrap_in (by omega)
  have wz : IntKind.i64.wrap z = z := wrap_in (by omega)
  have t1 := tmod_bd (a := t) (b := 1001) (by omega)
  have wk : IntKind.i64.wrap (t.tmod 1001 * 21600000) = t.tmod 1001 * 21600000 := wrap_in (by omega)
  simp only [wt, wz, wk]
  generalize t.tmod 1001 = k at *
  simp only [bcase_iff, true_and, and_true, decide_eq_true_eq, decide_eq_false_iff_not, Bool.not_eq_true', Bool.not_eq_false', Bool.not_true, Bool.not_false, beq_iff_eq, beq_eq_false_iff_ne, bne_iff_ne, ne_eq, bne_eq_false_iff_eq, Decidable.not_not, ge_iff_le, gt_iff_lt, Bool.not_eq_true, Bool.and_eq_true, Bool.or_eq_true, forall_const, imp_false, implies_true, Bool.true_eq_false, Bool.false_eq_true, false_implies, true_implies, Int.not_lt, Int.not_le, Int.zero_sub]
  intro h1 h2 h3 h4 h5 h6
  have hv : Val a b := by unfold Val; omega
  have kv : Val c d := by unfold Val; omega
  have sv : Val (a + k * 21600000) (b + k * 21600000) := by unfold Val; omega
  have mv : Val (k * 21600000) (k * 21600000) := by unfold Val; omega
  have f1 : Fit (a + k * 21600000) := by unfold Fit; omega
  have f2 : Fit (b + k * 21600000) := by unfold Fit; omega
  have o1 : ok2 a b (k * 21600000) (k * 21600000) (a + k * 21600000) (b + k * 21600000) := ⟨hv, mv, f1, f2⟩
  have e1 : er2 a b (k * 21600000) (k * 21600000) (a + k * 21600000) (b + k * 21600000) = 0 := by unfold er2; simp only [hv, mv, f1, f2, and_self, if_true]
  have w1 : IntKind.i64.wrap (b - a) = b - a := wrap_in (by omega)
  have w2 : IntKind.i64.wrap (b - a + 1) = b - a + 1 := wrap_in (by omega)
  have z1 := tmod_bd (a := z) (b := b - a + 1) (by omega)
  have z2 := Int.tmod_nonneg (a := z) (b - a + 1) (by omega)
  have w3 : IntKind.i64.wrap (a + z.tmod (b - a + 1)) = a + z.tmod (b - a + 1) := wrap_in (by omega)
  have a1 : agree (a + k * 21600000) (b + k * 21600000) c d ↔ agree a b c d := by
    unfold agree; simp only [hv, sv, kv, true_and]; omega
  have a2 : agree c d a b ↔ agree a b c d := by
    unfold agree; simp only [hv, kv, true_and]; omega
  have a3 : agree a b a b := by
    unfold agree; simp only [hv, true_and]; omega
  have dl : dLo (a + k * 21600000) (b + k * 21600000) = dLo a b ∧ dHi (a + k * 21600000) (b + k * 21600000) = dHi a b := by
    rcases d_cases hv with ⟨p, q, r⟩ | ⟨p, q, r⟩ <;> rcases d_cases sv with ⟨p', q', r'⟩ | ⟨p', q', r'⟩ <;> rw [q, r, q', r'] <;> omega
  have g1 := Int.emod_nonneg a (b := 21600000) (by omega)
  have g2 := Int.emod_lt_of_pos a (b := 21600000) (by omega)
  have dv : Val (dLo a b) (dHi a b) := by
    rcases d_cases hv with ⟨p, q, r⟩ | ⟨p, q, r⟩ <;> rw [q, r] <;> unfold Val <;> omega
  have a4 : agree a b (dLo a b) (dHi a b) := by
    unfold agree; simp only [hv, dv, true_and]
    rcases d_cases hv with ⟨p, q, r⟩ | ⟨p, q, r⟩ <;> rw [q, r] <;> omega
  have bd : 0 ≤ dLo a b ∧ dLo a b < 21600000 ∧ dLo a b ≤ dHi a b ∧ dHi a b - dLo a b ≤ 21600000 := by
    rcases d_cases hv with ⟨p, q, r⟩ | ⟨p, q, r⟩ <;> rw [q, r] <;> omega
  have w4 : IntKind.i64.wrap (dHi a b - dLo a b) = dHi a b - dLo a b := wrap_in (by omega)
  simp only [w1, w2, w3, w4, e1, o1, gate, if_true, dl.1, dl.2, a1, a2]
  generalize z.tmod (b - a + 1) = j at *
  have ov : Val (a + j) (a + j) := by unfold Val; omega
  have a5 : agree a b (a + j) (a + j) := by
    unfold agree; simp only [hv, ov, true_and]; omega
  simp [hv, kv, sv, dv, ov, a3, a4, a5, pick, two, bd]
  omega
end Go.Proofs.YtcejlhgjcoidpaaDoor
