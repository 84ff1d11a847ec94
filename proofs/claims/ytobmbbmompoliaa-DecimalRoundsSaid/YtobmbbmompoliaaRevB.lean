/- The reversal at the end of decimal.format. -/
import Derived.Test.YtobmbbmompoliaaCtM
import Derived.Test.YtobmbbmompoliaaRev
namespace Go.Proofs.Ytobmbbmompoliaa
open Go Go.Abs Go.RowKit
set_option linter.unusedVariables false
set_option linter.unusedSimpArgs false
theorem inB_yes {j : Int} {n : Nat} (h0 : 0 ≤ j) (h1 : j < n) : inB j n = true := by unfold inB; simp [h0, h1]
theorem blt_yes {j n : Nat} (h : j < n) : j.blt n = true := Nat.ble_eq_true_of_le h
theorem cap1 {n : Nat} (h : n ≤ 1000) : capOk n 1 = true := by
  unfold capOk
  rw [show Nat.ble (n * 1) 140737488355328 = true from Nat.ble_eq_true_of_le (by omega), show Nat.ble n maxLen = true from Nat.ble_eq_true_of_le (by have : maxLen = 9223372036854775807 := rfl; omega)]
  rfl
theorem rev1 (R : List Int) (N : Nat) (hN : R.length = N) (h1 : 1 ≤ N) (h2 : N ≤ 50) (K : Value → Prop) (hk : K (.string (strV R.reverse))) :
 (∃ (s_1 : Nat),
 (N = N ∧ 0 = ((s_1 : Nat) : Int) ∧ IntKind.i64.wrap ((↑(N) : Int) - 1) = (↑R.length : Int) - 1 - ((s_1 : Nat) : Int) ∧ Int.ofNat 45 = 45 ∧ R = revA R s_1 ∧ True) ∧
 (2 * s_1).le (R.length + 1) ∧
 ∀ (s_2 : Nat),
 (2 * s_2).le (R.length + 1) →
 bcase (decide ((↑s_2 : Int) < (↑R.length : Int) - 1 - (↑s_2 : Int)))
 (bcase (inB ((↑R.length : Int) - 1 - (↑s_2 : Int)) (N))
 (bcase (((↑R.length : Int) - 1 - (↑s_2 : Int)).toNat.blt (revA R s_2).length)
 (bcase (inB (↑s_2 : Int) (N))
 (bcase ((↑s_2 : Int).toNat.blt (revA R s_2).length)
 (bcase (inB (↑s_2 : Int) (N))
 (bcase ((↑s_2 : Int).toNat.blt (revA R s_2).length)
 (bcase (inB ((↑R.length : Int) - 1 - (↑s_2 : Int)) (N))
 (bcase (((↑R.length : Int) - 1 - (↑s_2 : Int)).toNat.blt ((revA R s_2).set (↑s_2 : Int).toNat ((revA R s_2).getD ((↑R.length : Int) - 1 - (↑s_2 : Int)).toNat 0)).length)
 (∃ (s_3 : Nat),
 (N = N ∧
 IntKind.i64.wrap ((↑s_2 : Int) + 1) = (↑s_3 : Int) ∧
 IntKind.i64.wrap ((↑R.length : Int) - 1 - (↑s_2 : Int) - 1) = (↑R.length : Int) - 1 - (↑s_3 : Int) ∧
 Int.ofNat 45 = 45 ∧ ((revA R s_2).set (↑s_2 : Int).toNat ((revA R s_2).getD ((↑R.length : Int) - 1 - (↑s_2 : Int)).toNat 0)).set ((↑R.length : Int) - 1 - (↑s_2 : Int)).toNat ((revA R s_2).getD (↑s_2 : Int).toNat 0) = revA R s_3 ∧ True) ∧
 (2 * s_3).le (R.length + 1) ∧ R.length + 1 - s_3 < R.length + 1 - s_2)
 False)
 False)
 False)
 False)
 False)
 False)
 False)
 False)
 (N = (revA R s_2).length ∧ K (Value.string (strV (revA R s_2))))) := by
  subst hN
  refine ⟨0, ⟨rfl, rfl, by rw [wrap_in (by omega)]; simp, rfl, (revA_zero R).symm, trivial⟩, Nat.zero_le _, fun i hi => ?_⟩
  have hi : 2 * i ≤ R.length + 1 := hi
  refine bcase_iff.mpr ⟨fun q => ?_, fun q => ⟨(revA_len R i).symm, ?_⟩⟩
  · have q := of_decide_eq_true q
    have hj : ((R.length : Int) - 1 - (i : Int)).toNat = R.length - 1 - i := by omega
    have hi' : (i : Int).toNat = i := rfl
    rw [hj, hi', List.length_set, revA_len, inB_yes (j := (R.length : Int) - 1 - (i : Int)) (by omega) (by omega), inB_yes (j := (i : Int)) (by omega) (by omega), blt_yes (j := R.length - 1 - i) (by omega), blt_yes (j := i) (by omega)]
    repeat rw [bcase_true]
    refine ⟨i + 1, ⟨rfl, ?_, ?_, rfl, revA_step (by omega), trivial⟩, ?_, ?_⟩
    · rw [wrap_in (by omega)]; omega
    · rw [wrap_in (by omega)]; omega
    · show 2 * (i + 1) ≤ R.length + 1; omega
    · show R.length + 1 - (i + 1) < R.length + 1 - i; omega
  · have q := of_decide_eq_false q
    rw [revA_done (by omega)]
    exact hk
theorem rev2 (R : List Int) (N : Nat) (hN : R.length = N) (h1 : 1 ≤ N) (h2 : N ≤ 50) (K : Value → Prop) (hk : K (.string (strV R.reverse))) :
 (∃ (s_1 : Nat),
 (R.length = R.length ∧ 0 = (↑s_1 : Int) ∧ IntKind.i64.wrap ((↑R.length : Int) - 1) = (↑R.length : Int) - 1 - (↑s_1 : Int) ∧ R = revA R s_1 ∧ True) ∧
 (2 * s_1).le (R.length + 1) ∧
 ∀ (s_2 : Nat),
 (2 * s_2).le (R.length + 1) →
 bcase (decide ((↑s_2 : Int) < (↑R.length : Int) - 1 - (↑s_2 : Int)))
 (bcase (inB ((↑R.length : Int) - 1 - (↑s_2 : Int)) R.length)
 (bcase (((↑R.length : Int) - 1 - (↑s_2 : Int)).toNat.blt (revA R s_2).length)
 (bcase (inB (↑s_2 : Int) R.length)
 (bcase ((↑s_2 : Int).toNat.blt (revA R s_2).length)
 (bcase (inB (↑s_2 : Int) R.length)
 (bcase ((↑s_2 : Int).toNat.blt (revA R s_2).length)
 (bcase (inB ((↑R.length : Int) - 1 - (↑s_2 : Int)) R.length)
 (bcase (((↑R.length : Int) - 1 - (↑s_2 : Int)).toNat.blt ((revA R s_2).set (↑s_2 : Int).toNat ((revA R s_2).getD ((↑R.length : Int) - 1 - (↑s_2 : Int)).toNat 0)).length)
 (∃ (s_3 : Nat),
 (R.length = R.length ∧
 IntKind.i64.wrap ((↑s_2 : Int) + 1) = (↑s_3 : Int) ∧
 IntKind.i64.wrap ((↑R.length : Int) - 1 - (↑s_2 : Int) - 1) = (↑R.length : Int) - 1 - (↑s_3 : Int) ∧
 ((revA R s_2).set (↑s_2 : Int).toNat ((revA R s_2).getD ((↑R.length : Int) - 1 - (↑s_2 : Int)).toNat 0)).set ((↑R.length : Int) - 1 - (↑s_2 : Int)).toNat ((revA R s_2).getD (↑s_2 : Int).toNat 0) = revA R s_3 ∧ True) ∧
 (2 * s_3).le (R.length + 1) ∧ R.length + 1 - s_3 < R.length + 1 - s_2)
 False)
 False)
 False)
 False)
 False)
 False)
 False)
 False)
 (R.length = (revA R s_2).length ∧ K (Value.string (strV (revA R s_2))))) := by
  subst hN
  refine ⟨0, ⟨rfl, rfl, by rw [wrap_in (by omega)]; simp, (revA_zero R).symm, trivial⟩, Nat.zero_le _, fun i hi => ?_⟩
  have hi : 2 * i ≤ R.length + 1 := hi
  refine bcase_iff.mpr ⟨fun q => ?_, fun q => ⟨(revA_len R i).symm, ?_⟩⟩
  · have q := of_decide_eq_true q
    have hj : ((R.length : Int) - 1 - (i : Int)).toNat = R.length - 1 - i := by omega
    have hi' : (i : Int).toNat = i := rfl
    rw [hj, hi', List.length_set, revA_len, inB_yes (j := (R.length : Int) - 1 - (i : Int)) (by omega) (by omega), inB_yes (j := (i : Int)) (by omega) (by omega), blt_yes (j := R.length - 1 - i) (by omega), blt_yes (j := i) (by omega)]
    repeat rw [bcase_true]
    refine ⟨i + 1, ⟨rfl, ?_, ?_, revA_step (by omega), trivial⟩, ?_, ?_⟩
    · rw [wrap_in (by omega)]; omega
    · rw [wrap_in (by omega)]; omega
    · show 2 * (i + 1) ≤ R.length + 1; omega
    · show R.length + 1 - (i + 1) < R.length + 1 - i; omega
  · have q := of_decide_eq_false q
    rw [revA_done (by omega)]
    exact hk
end Go.Proofs.Ytobmbbmompoliaa
