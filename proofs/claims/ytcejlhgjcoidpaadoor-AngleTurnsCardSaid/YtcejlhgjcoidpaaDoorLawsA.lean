/- The laws AngleWraps, AngleTurns, AngleSums, AngleMeets, AngleDirections, AngleUndoes return true for every input. -/
import Derived.Test.YtcejlhgjcoidpaaDoorCtC
namespace Go.Proofs.YtcejlhgjcoidpaaDoor
open Go Go.Abs Go.RowKit
set_option linter.unusedVariables false
set_option linter.unusedSimpArgs false
theorem law_wraps (n a b c d : Int) : Ans Tryd.prog Tabs 3 [num n, arc a b, arc c d] (.bool true) := by
  refine fn_by st_tabs s5 (vc_lawWraps n a b c d _) ?_
  have h1 := Int.emod_nonneg n (b := 21600000) (by omega)
  have h2 := Int.emod_lt_of_pos n (b := 21600000) (by omega)
  have w1 : IntKind.i64.wrap (n % 21600000 - 21600000) = n % 21600000 - 21600000 := wrap_in (by omega)
  rw [w1]
  generalize hs : signed n = s
  unfold signed at hs
  by_cases h : Val a b <;> by_cases k : Val c d <;> simp [bcase_iff, h, k] <;> grind
theorem law_turns (a b c d : Int) : Ans Tryd.prog Tabs 4 [arc a b, arc c d] (.bool true) := by
  refine fn_by st_tabs s5 (vc_lawTurns a b c d _) ?_
  by_cases h : Val a b <;> by_cases k : Val c d <;> simp [bcase_iff, h, k, pick, dLo, dHi, two, agree]
theorem t_le (a b m d : Int) (h : Frac m d) : tLo a b m d ≤ tHi a b m d := by
  unfold tLo tHi
  unfold Frac at h
  have h1 : min (a * m) (b * m) / d ≤ max (a * m) (b * m) / d := Int.ediv_le_ediv (by omega) (by omega)
  have h2 := neg_floor (a := max (a * m) (b * m)) (b := d) (by omega)
  rw [h2]
  split <;> omega
theorem law_sums (a b c d m e : Int) : Ans Tryd.prog Tabs 6 [arc a b, arc c d, num m, num e] (.bool true) := by
  refine fn_by st_tabs s5 (vc_lawSums a b c d m e _) ?_
  by_cases h : Val a b
  · obtain ⟨h1, h2, h3⟩ := id h
    have i1 : I64 (-a) := by unfold I64; omega
    have i2 : I64 (-b) := by unfold I64; omega
    by_cases k : Val c d
    · obtain ⟨k1, k2, k3⟩ := id k
      have j1 : I64 (a + c) := by unfold I64; omega
      have j2 : I64 (b + d) := by unfold I64; omega
      have j3 : I64 (a - d) := by unfold I64; omega
      have j4 : I64 (b - c) := by unfold I64; omega
      have v1 : Val (a + c) (b + d) ↔ (Fit (a + c) ∧ Fit (b + d)) := by unfold Val Fit; omega
      have v2 : Val (a - d) (b - c) ↔ (Fit (a - d) ∧ Fit (b - c)) := by unfold Val Fit; omega
      have t1 : sameB (gate (ok2 a b c d (a + c) (b + d)) (a + c)) (gate (ok2 a b c d (a + c) (b + d)) (b + d)) (er2 a b c d (a + c) (b + d)) (a + c) (b + d) = true := by
        unfold sameB gate ok2 er2
        simp only [h, k, true_and, and_self, if_true, v1]
        by_cases q : Fit (a + c) ∧ Fit (b + d) <;> simp [q]
      have t2 : sameB (gate (ok2 a b c d (a - d) (b - c)) (a - d)) (gate (ok2 a b c d (a - d) (b - c)) (b - c)) (er2 a b c d (a - d) (b - c)) (a - d) (b - c) = true := by
        unfold sameB gate ok2 er2
        simp only [h, k, true_and, and_self, if_true, v2]
        by_cases q : Fit (a - d) ∧ Fit (b - c) <;> simp [q]
      by_cases f : Frac m e
      · have v3 : Val (tLo a b m e) (tHi a b m e) ↔ (Fit (tLo a b m e) ∧ Fit (tHi a b m e)) := by
          have := t_le a b m e f
          unfold Val Fit
          omega
        have f' := f
        unfold Frac at f'
        simp only [bcase_iff, t1, t2]
        by_cases q : Fit (tLo a b m e) ∧ Fit (tHi a b m e) <;> simp [h, k, f, i1, i2, j1, j2, j3, j4, pick, gate, okT, erT, v3, q] <;> omega
      · simp only [bcase_iff, t1, t2]
        simp [h, k, f, i1, i2, j1, j2, j3, j4, pick, gate, okT, erT]
        unfold Frac at f
        omega
    · by_cases f : Frac m e
      · have v3 : Val (tLo a b m e) (tHi a b m e) ↔ (Fit (tLo a b m e) ∧ Fit (tHi a b m e)) := by
          have := t_le a b m e f
          unfold Val Fit
          omega
        have f' := f
        unfold Frac at f'
        by_cases q : Fit (tLo a b m e) ∧ Fit (tHi a b m e) <;> simp [bcase_iff, h, k, f, i1, i2, pick, gate, ok2, er2, okT, erT, v3, q] <;> omega
      · simp [bcase_iff, h, k, f, i1, i2, pick, gate, ok2, er2, okT, erT]
        unfold Frac at f
        omega
  · simp [bcase_iff, h, pick, gate, ok2, er2, okT, erT]
theorem law_meets (a b c d : Int) : Ans Tryd.prog Tabs 7 [arc a b, arc c d] (.bool true) := by
  refine fn_by st_tabs s5 (vc_lawMeets a b c d _) ?_
  by_cases h : Val a b
  · obtain ⟨h1, h2, h3⟩ := id h
    by_cases k : Val c d
    · obtain ⟨k1, k2, k3⟩ := id k
      have v1 : Val (min a c) (max b d) := by unfold Val at *; omega
      by_cases q : max a c ≤ min b d
      · have v2 : Val (max a c) (min b d) := by unfold Val at *; omega
        simp [bcase_iff, h, k, pick, gate, two, meets, v1, v2, q]
        omega
      · simp [bcase_iff, h, k, pick, gate, two, meets, v1, q]
        omega
    · simp [bcase_iff, h, k, pick, gate, two, meets]
  · simp [bcase_iff, h, pick, gate, two, meets]
end Go.Proofs.YtcejlhgjcoidpaaDoor
