/- The laws of floors and of sums undone. -/
import Derived.Test.YtmghbedgfnlpoaaLawsN
namespace Go.Proofs.Ytmghbedgfnlpoaa
open Go Go.Abs Go.RowKit
set_option linter.unusedVariables false
set_option linter.unusedSimpArgs false
/-- The quotients, rounded down and up. -/
theorem floor_ceil {V b : Int} (hb : 0 < b) : ∃ n m, quoI V b false = n ∧ quoI V b true = m ∧ quoI (0 - V) b false = 0 - m ∧ n * b ≤ V ∧ V < (n + 1) * b ∧ n ≤ m ∧ m ≤ n + 1 ∧ (m = n ↔ n * b = V) := by
  have fd : ∀ a : Int, a.fdiv b = a / b := fun a => Int.fdiv_eq_ediv_of_nonneg a (by omega)
  refine ⟨V / b, -((-V) / b), by unfold quoI; simp [fd], by unfold quoI; simp [fd], by unfold quoI; simp [fd], ?_⟩
  have r0 := Int.emod_nonneg V (show b ≠ 0 by omega)
  have r1 := Int.emod_lt_of_pos V hb
  have e := Int.mul_ediv_add_emod V b
  rw [neg_ediv' hb]
  generalize V / b = n at *
  generalize V % b = R at *
  have e1 : n * b = V - R := by rw [← e]; grind
  have e2 : (n + 1) * b = V - R + b := by rw [← e]; grind
  rw [e1, e2]
  unfold more
  split
  · rename_i h; refine ⟨by omega, by omega, by omega, by omega, ⟨fun q => by omega, fun q => by omega⟩⟩
  · rename_i h
    have : R = 0 := by
      have : ¬ R > 0 := fun q => h ⟨q, rfl⟩
      omega
    refine ⟨by omega, by omega, by omega, by omega, ⟨fun q => by omega, fun q => by omega⟩⟩
variable {Φ : World → Prop} (hst : ∀ w w', Φ w → Below w.heap.size w w' → Φ w')
include hst
theorem law_floors (h l b : Int) (hh : I64 h) (hl : I64 l) (hb : I64 b) : Ans Try.prog Φ 9 [wid h l, num b] (.bool true) := by
  refine fn_by hst (s_L hst) (vc_floors h l b _) ?_
  refine ⟨trivial, trivial, ?_⟩
  simp only [bcase_iff, Bool.not_eq_true', Bool.not_eq_false', decide_eq_true_eq, decide_eq_false_iff_not]
  refine ⟨fun _ => trivial, fun hv => ⟨fun _ => trivial, fun b1 => ⟨fun _ => trivial, fun b2 => ⟨hb, hb, ?_⟩⟩⟩⟩
  have b0 : b ≠ 0 := by omega
  obtain ⟨n, m, qn, qm, qk, f1, f2, f3, f4, f5⟩ := floor_ceil (V := val h l) (b := b) (by omega)
  have hV := WV_F120 hv
  have v00 : val 0 0 = 0 := rfl
  have okn : ∀ {up : Bool} {q : Int}, quoI (val h l) b up = q → I64 q → okQ h l b up := fun h1 h2 => ⟨hv, b0, by rw [h1]; exact h2⟩
  have nok : ∀ {up : Bool} {q : Int}, quoI (val h l) b up = q → ¬ I64 q → ¬ okQ h l b up := fun h1 h2 h3 => h2 (h1 ▸ h3.2.2)
  simp only [pick_yes hv, pick_no b0, qn, qm, v00]
  by_cases in1 : I64 n
  · by_cases im1 : I64 m
    · have o1 := okn qn in1
      have o2 := okn qm im1
      simp only [pick_yes in1, pick_yes im1, gate_yes o1, gate_yes o2]
      refine ⟨fun q => absurd q (by decide), fun _ => ⟨fun q => absurd q (by decide), fun _ => ⟨trivial, ?_⟩⟩⟩
      have mul : ∀ {x : Int}, -1152921504606846977 ≤ x → x ≤ 1152921504606846977 → F120 (x * b) := fun {x} h1 h2 => by
        have k : (x * b).natAbs ≤ 1152921504606846977 * 1125899906842624 := by
          rw [Int.natAbs_mul]
          exact Nat.mul_le_mul (by omega) (by omega)
        unfold F120
        omega
      have t0 : two 0 0 h l := ⟨by unfold WV; decide, hv⟩
      have low : ¬ n < -1152921504606846976 → ¬ n > 1152921504606846976 → (IntKind.i64.wrap (n + 1) = n + 1 ∧ IntKind.i64.wrap (m - n) = m - n ∧ F120 (n * b) ∧ F120 ((n + 1) * b) ∧ I64 (n + 1)) := fun g1 g2 =>
        ⟨wrap_in (by omega), wrap_in (by omega), mul (by omega) (by omega), mul (by omega) (by omega), by unfold I64; omega⟩
      have ord1 : ordI (n * b) (val h l) ≤ 0 := by unfold ordI; split; omega; split <;> omega
      have ord2 : ordI (val h l) ((n + 1) * b) < 0 := by unfold ordI; rw [if_pos f2]; omega
      have ord3 : (ordI (n * b) (val h l) == 0) = (m == n) := by
        by_cases e : n * b = val h l
        · have e2 := f5.mpr e
          rw [e2, e]; unfold ordI; simp
        · have e2 : m ≠ n := fun q => e (f5.mp q)
          have : ordI (n * b) (val h l) ≠ 0 := by unfold ordI; split; omega; split <;> omega
          rw [beq_eq_false_iff_ne.mpr this, beq_eq_false_iff_ne.mpr e2]
      have up : decide (m - n ≤ 1) = true := decide_eq_true (by omega)
      by_cases q62 : n > -4611686018427387904
      · have im0 : I64 (0 - m) := by unfold I64 at im1 ⊢; omega
        have wm : IntKind.i64.wrap (0 - (0 - m)) = m := by rw [wrap_in (by unfold I64 at im1; omega)]; omega
        by_cases mid : ¬ n < -1152921504606846976 ∧ ¬ n > 1152921504606846976
        · obtain ⟨l1, l2, l3, l4, l5⟩ := low mid.1 mid.2
          have w3 := F120_WV l3
          have w4 := F120_WV l4
          have t3 : two (hiO (n * b)) (loO (n * b)) h l := ⟨w3, hv⟩
          have t4 : two h l (hiO ((n + 1) * b)) (loO ((n + 1) * b)) := ⟨hv, w4⟩
          by_cases fn : F120 (0 - val h l)
          · have w0 := F120_WV fn
            have o0 : ok2 0 0 h l (0 - val h l) := ⟨t0.1, hv, fn⟩
            have oq : okQ (hiO (0 - val h l)) (loO (0 - val h l)) b false := ⟨w0, b0, by rw [val_O, qk]; exact im0⟩
            simp only [pick_yes t0, pick_yes fn, gate_yes o0, val_O, qk, gate_yes oq, pick_yes w0, pick_yes im0, wm, l1, l2, gate_yes l3, gate_yes l4, pick_yes l3, pick_yes l4, pick_yes t3, pick_yes t4, gate_yes t3, gate_yes t4, ord3, up]
            simp [hb, in1, l5, ord1, ord2, q62, mid]
          · simp only [pick_yes t0, pick_no fn, val_O, qk, wm, l1, l2, gate_yes l3, gate_yes l4, pick_yes l3, pick_yes l4, pick_yes t3, pick_yes t4, gate_yes t3, gate_yes t4, ord3, up]
            simp [hb, in1, l5, ord1, ord2, q62, mid]
        · have md : n < -1152921504606846976 ∨ n > 1152921504606846976 := by omega
          by_cases fn : F120 (0 - val h l)
          · have w0 := F120_WV fn
            have o0 : ok2 0 0 h l (0 - val h l) := ⟨t0.1, hv, fn⟩
            have oq : okQ (hiO (0 - val h l)) (loO (0 - val h l)) b false := ⟨w0, b0, by rw [val_O, qk]; exact im0⟩
            simp only [pick_yes t0, pick_yes fn, gate_yes o0, val_O, qk, gate_yes oq, pick_yes w0, pick_yes im0, wm]
            refine ⟨fun _ => ⟨hb, fun _ => ⟨fun q => absurd q (by simp), fun _ => ⟨fun q => absurd q (by simp), fun _ => ⟨fun _ => trivial, fun g1 => ⟨fun _ => trivial, fun g2 => absurd md (by omega)⟩⟩⟩⟩, fun q => absurd q62 q⟩, fun _ => ⟨fun _ => trivial, fun g1 => ⟨fun _ => trivial, fun g2 => absurd md (by omega)⟩⟩⟩
          · simp only [pick_yes t0, pick_no fn]
            exact ⟨fun q => absurd q (by decide), fun _ => ⟨fun _ => trivial, fun g1 => ⟨fun _ => trivial, fun g2 => absurd md (by omega)⟩⟩⟩
      · have sm : n < -1152921504606846976 := by omega
        exact ⟨fun _ => ⟨hb, fun q => absurd q q62, fun _ => ⟨fun _ => trivial, fun q => absurd sm q⟩⟩, fun _ => ⟨fun _ => trivial, fun q => absurd sm q⟩⟩
    · have o2 := nok qm im1
      simp only [pick_yes in1, pick_no im1, gate_no o2]
      refine ⟨fun q => absurd q (by decide), fun _ => ⟨fun _ => ⟨fun _ => ⟨fun q => absurd q (by decide), fun _ => ⟨fun _ => by simp, fun q => absurd q (by decide)⟩⟩, fun q => absurd q (by decide)⟩, fun q => absurd q (by decide)⟩⟩
  · have o1 := nok qn in1
    simp only [pick_no in1, gate_no o1]
    refine ⟨fun _ => ⟨fun q => absurd q (by decide), fun _ => ⟨fun _ => ⟨fun _ => ?_, fun q => absurd q (by decide)⟩, fun q => absurd q (by decide)⟩⟩, fun q => absurd q (by decide)⟩
    by_cases im1 : I64 m
    · simp only [pick_yes im1]
      exact ⟨fun _ => trivial, fun q => absurd q (by decide)⟩
    · have o2 := nok qm im1
      simp only [pick_no im1, gate_no o2]
      exact ⟨fun q => absurd q (by decide), fun _ => ⟨fun _ => by simp, fun q => absurd q (by decide)⟩⟩
theorem law_back (a b c d n : Int) (ha : I64 a) (hb : I64 b) (hc : I64 c) (hd : I64 d) (hn : I64 n) : Ans Try.prog Φ 11 [wid a b, wid c d, num n] (.bool true) := by
  refine fn_by hst (s_L hst) (vc_back a b c d n _) ?_
  have fn : F120 n := by unfold I64 at hn; unfold F120; omega
  have wn := F120_WV fn
  have on : okI (hiO n) (loO n) := ⟨wn, by rw [val_O]; exact hn⟩
  have dn : (!decide (WV (hiO n) (loO n))) = false := by rw [decide_eq_true wn]; rfl
  have nn : (n != n) = false := by simp
  have n0 : ((0 : Int) != 0) = false := rfl
  have z0 : ((0 : Int) == 0) = true := rfl
  have v00 : val 0 0 = 0 := rfl
  have w00 : WV 0 0 := by unfold WV; decide
  simp only [gate_yes on, pick_yes wn, val_O, pick_yes hn, dn, nn, n0, bcase_iff]
  refine ⟨trivial, hn, trivial, fun q => absurd q (by decide), fun _ => ⟨fun q => absurd q (by decide), fun _ => ⟨hn, trivial, fun q => absurd q (by decide), fun _ => ⟨trivial, ?_⟩⟩⟩⟩
  by_cases h1 : WV a b
  · by_cases h2 : WV c d
    · have t1 : two a b c d := ⟨h1, h2⟩
      have t2 : two c d a b := ⟨h2, h1⟩
      have t3 : two c d 0 0 := ⟨h2, w00⟩
      have o1 : IntKind.i64.wrap (0 - ordI (val c d) (val a b)) = ordI (val a b) (val c d) := by
        unfold ordI
        rcases Int.lt_trichotomy (val a b) (val c d) with q | q | q
        · simp only [if_pos q, if_neg (show ¬ val c d < val a b by omega)]; rfl
        · simp only [q, Int.lt_irrefl, if_false]; rfl
        · simp only [if_pos q, if_neg (show ¬ val a b < val c d by omega)]; rfl
      have o2 : (!(ordI (val a b) (val c d) == 0) == (a == c && (b == d && true))) = false := by
        by_cases e : val a b = val c d
        · have e1 := O_val h1
          have e2 := O_val h2
          rw [e] at e1
          have ac : a = c := e1.1.symm.trans e2.1
          have bd : b = d := e1.2.symm.trans e2.2
          subst ac bd
          unfold ordI; simp
        · have k : ordI (val a b) (val c d) ≠ 0 := by unfold ordI; split; omega; split <;> omega
          have k2 : (a == c && (b == d && true)) = false := by
            by_cases ac : a = c
            · by_cases bd : b = d
              · exact absurd (by rw [ac, bd]) e
              · simp [bd]
            · simp [ac]
          rw [k2, beq_eq_false_iff_ne.mpr k]; rfl
      have cm : val c d + val a b = val a b + val c d := Int.add_comm _ _
      have oo : (ordI (val a b) (val c d) != ordI (val a b) (val c d)) = false := by simp
      simp only [pick_yes t1, pick_yes t2, gate_yes t1, gate_yes t2, o1, o2, cm, n0, oo]
      refine ⟨fun _ => trivial, fun _ => ⟨trivial, fun _ => trivial, fun _ => ⟨trivial, trivial, fun q => absurd q (by decide), fun _ => ⟨fun q => absurd q (by decide), fun _ => ⟨fun q => absurd q (by decide), fun _ => ⟨fun q => absurd q (by decide), fun _ => ⟨trivial, trivial, ?_⟩⟩⟩⟩⟩⟩⟩
      by_cases fs : F120 (val a b + val c d)
      · have ws := F120_WV fs
        have k1 : ok2 a b c d (val a b + val c d) := ⟨h1, h2, fs⟩
        have k2 : ok2 c d a b (val a b + val c d) := ⟨h2, h1, fs⟩
        have ea : val a b + val c d - val c d = val a b := by omega
        have k3 : ok2 (hiO (val a b + val c d)) (loO (val a b + val c d)) c d (val a b) := ⟨ws, h2, WV_F120 h1⟩
        have t4 : two (hiO (val a b + val c d)) (loO (val a b + val c d)) c d := ⟨ws, h2⟩
        have t5 : two (hiO (val a b + val c d)) (loO (val a b + val c d)) a b := ⟨ws, h1⟩
        have od : ordI (val a b + val c d) (val a b) = ordI (val c d) 0 := by
          unfold ordI
          rcases Int.lt_trichotomy (val c d) 0 with q | q | q
          · rw [if_pos (show val a b + val c d < val a b by omega), if_pos q]
          · rw [if_neg (show ¬ val a b + val c d < val a b by omega), if_neg (show ¬ val a b < val a b + val c d by omega), if_neg (show ¬ val c d < 0 by omega), if_neg (show ¬ 0 < val c d by omega)]
          · rw [if_neg (show ¬ val a b + val c d < val a b by omega), if_pos (show val a b < val a b + val c d by omega), if_neg (show ¬ val c d < 0 by omega), if_pos q]
        simp only [gate_yes k1, gate_yes k2, val_O, ea, gate_yes k3, (O_val h1).1, (O_val h1).2, pick_yes t4, pick_yes t5, pick_yes t3, pick_yes fs, pick_yes (WV_F120 h1), gate_yes t5, gate_yes t3, v00, od]
        simp
      · have k1 : ¬ ok2 a b c d (val a b + val c d) := fun q => fs q.2.2
        have k2 : ¬ ok2 c d a b (val a b + val c d) := fun q => fs q.2.2
        simp only [gate_no k1, gate_no k2, pick_no fs]
        simp
    · exact ⟨fun _ => trivial, fun _ => ⟨trivial, fun _ => trivial, fun q => absurd q (by simp [h2])⟩⟩
  · exact ⟨fun _ => trivial, fun q => absurd q (by simp [h1])⟩
end Go.Proofs.Ytmghbedgfnlpoaa
