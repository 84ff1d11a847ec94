/- The reference's signed numbers. -/
import Derived.Test.YtmghbedgfnlpoaaDoorCtO
import Derived.Test.YtmghbedgfnlpoaaDoorVcS
namespace Go.Proofs.YtmghbedgfnlpoaaDoor
open Go Go.Abs Go.RowKit
set_option linter.unusedVariables false
set_option linter.unusedSimpArgs false
theorem nv_lt {l : List Int} (h : Can l) (hl : l.length ≤ 40) : nv l < 268435456 ^ 40 := by
  have q := dig_short (v := nv l)
  rw [← h.1] at q
  exact Nat.lt_of_lt_of_le q (Nat.pow_le_pow_right (by decide) hl)
theorem dig_nil {v : Nat} : ((dig v).length : Int) = 0 ↔ v = 0 := by
  constructor
  · intro h
    have h : (dig v).length = 0 := by omega
    have e := nv_dig v
    rw [List.eq_nil_of_length_eq_zero h] at e
    simpa [nv, dvI] using e.symm
  · intro h; subst h; rw [dig_zero]; rfl
variable {Φ : World → Prop} (hst : ∀ w w', Φ w → Below w.heap.size w w' → Φ w')
include hst
theorem c_sign (l : List Int) (s : Bool) : RAns Tryd.prog Φ 58 [.agg [dR l, .v (.bool s)]] [.agg [.same 0, .v (.bool (!decide ((l.length : Int) = 0) && s))]] := by
  refine rfn_by hst Sound.nil (vc_sign l s) ?_
  refine bcase_iff.mpr ⟨fun q => ⟨rfl, ?_, trivial⟩, fun q => ⟨rfl, ?_, trivial⟩⟩
  · rw [decide_eq_true (beq_iff_eq.mp q)]; rfl
  · rw [decide_eq_false (beq_eq_false_iff_ne.mp q)]; cases s <;> rfl
theorem s_Pl : Sound Tryd.prog Φ ΓPl :=
  Sound.rcons (by kernel_rfl) (fun ads p rds h hp => by unfold sSum at h; split at h <;> cases h; exact c_sum hst _ _ hp.1 hp.2)
  (Sound.rcons (by kernel_rfl) (fun ads p rds h hp => by unfold sLess at h; split at h <;> cases h; exact c_less hst _ _ hp.1 hp.2.1 hp.2.2)
  (Sound.rcons (by kernel_rfl) (fun ads p rds h hp => by unfold sOrder at h; split at h <;> cases h; exact c_order hst _ _ hp.1 hp.2)
  (Sound.rcons (by kernel_rfl) (fun ads p rds h hp => by unfold sSign at h; split at h <;> cases h; exact c_sign hst _ _)
  (Sound.rcons (by kernel_rfl) (fun ads p rds h hp => by unfold sTimes at h; split at h <;> cases h; exact c_times hst _ _ hp.1 hp.2) Sound.nil))))
theorem c_plus (l m : List Int) (s t : Bool) (h1 : CanN l s) (h2 : CanN m t) : RAns Tryd.prog Φ 37 [.agg [dR l, .v (.bool s)], .agg [dR m, .v (.bool t)]] [numR (numV l s + numV m t)] := by
  refine rfn_by hst (s_Pl hst) (vc_plus l m s t) ?_
  obtain ⟨a1, a2, a3⟩ := h1
  obtain ⟨b1, b2, b3⟩ := h2
  have la := nv_lt a1 a2
  have lb := nv_lt b1 b2
  have big : ∀ n, n < 268435456 ^ 41 → Can (dig n) := fun n h => Can_dig (by omega)
  simp only [forall_eq, List.take_length, Nat.zero_add, Nat.le_refl, true_and, and_true, dig_nil]
  unfold numV
  generalize hA : nv l = A at *
  generalize hB : nv m = B at *
  have od : ordI (A : Int) (B : Int) ≥ 0 ↔ B ≤ A := by
    unfold ordI
    split
    · omega
    · split <;> omega
  refine bcase_iff.mpr ⟨fun q => ⟨⟨a1, b1⟩, ?_⟩, fun q => ⟨⟨a1, b1⟩, bcase_iff.mpr ⟨fun k => ?_, fun k => ?_⟩⟩⟩
  · have q : s = t := by simpa using q
    subst q
    cases s
    · exact ⟨rfl, by simp only [Bool.false_eq_true, if_false]; rw [decide_eq_false (show ¬ ((A : Int) + (B : Int) < 0) by omega)]⟩
    · have := a3 rfl
      exact ⟨by congr 1; simp only [if_true]; omega, by congr 1; simp only [if_true]; symm; exact decide_eq_true (by omega)⟩
  · have k := od.mp (of_decide_eq_true k)
    refine ⟨⟨a1, b1, k⟩, big _ (by omega), ?_⟩
    cases s <;> cases t <;> first | (simp at q; done) | skip
    · exact ⟨by congr 1; simp only [Bool.false_eq_true, if_false, if_true]; omega, by congr 1; simp only [Bool.false_eq_true, if_false, if_true, Bool.and_false]; symm; exact decide_eq_false (by omega)⟩
    · refine ⟨by congr 1; simp only [Bool.false_eq_true, if_false, if_true]; omega, ?_⟩
      congr 1
      simp only [Bool.false_eq_true, if_false, if_true, Bool.and_true]
      by_cases e : A - B = 0
      · rw [decide_eq_true e, decide_eq_false (by omega)]; rfl
      · rw [decide_eq_false e, decide_eq_true (by omega)]; rfl
  · have k : ¬ B ≤ A := fun h => of_decide_eq_false k (od.mpr h)
    refine ⟨⟨b1, a1, by omega⟩, big _ (by omega), ?_⟩
    cases s <;> cases t <;> first | (simp at q; done) | skip
    · exact ⟨by congr 1; simp only [Bool.false_eq_true, if_false, if_true]; omega, by congr 1; simp only [Bool.false_eq_true, if_false, if_true, Bool.and_true]; rw [decide_eq_false (show ¬ (B - A = 0) by omega), decide_eq_true (by omega)]; rfl⟩
    · exact ⟨by congr 1; simp only [Bool.false_eq_true, if_false, if_true]; omega, by congr 1; simp only [Bool.false_eq_true, if_false, if_true, Bool.and_false]; symm; exact decide_eq_false (by omega)⟩
end Go.Proofs.YtmghbedgfnlpoaaDoor
