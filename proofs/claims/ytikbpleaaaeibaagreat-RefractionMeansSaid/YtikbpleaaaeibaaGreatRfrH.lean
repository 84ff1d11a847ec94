/- Refraction: the law of means. -/
import Derived.Test.YtikbpleaaaeibaaGreatRfrG
import Derived.Test.YtikbpleaaaeibaaGreatRfrE
import Derived.Test.YtikbpleaaaeibaaGreatRfrLM
namespace Go.Proofs.YtikbpleaaaeibaaGreat
open Go Go.Abs Go.RowKit
set_option linter.unusedVariables false
set_option linter.unusedSimpArgs false
theorem s_Lm : Sound Tryz.prog Any ΓLm :=
  Sound.cons (by kernel_rfl) (fun args p v h _ => by unfold sYes20 at h; split at h <;> cases h; exact c_awake20)
  (Sound.cons (by kernel_rfl) (fun args p v h _ => by unfold sMean at h; split at h <;> cases h; exact c_rfMean st_any _ _)
  (Sound.cons (by kernel_rfl) (fun args p v h _ => by unfold sFactor at h; split at h <;> cases h; exact c_rffactor st_any _ _)
  (Sound.cons (by kernel_rfl) (fun args p v h _ => by unfold sWth at h; split at h <;> cases h; exact c_r20weather st_any _ _)
  (Sound.cons (by kernel_rfl) (fun args p v h hp => by unfold sFactorR at h; split at h <;> cases h; exact c_r20factor st_any hp)
  (Sound.cons (by kernel_rfl) (fun args p v h _ => by unfold sVal5 at h; split at h <;> cases h; exact c_r5valid5 st_any _ _)
  (Sound.cons (by kernel_rfl) (fun args p v h _ => by unfold sWithin at h; split at h <;> cases h; exact c_r20within st_any _ _)
  (Sound.cons (by kernel_rfl) (fun args p v h hp => by unfold sMean1 at h; split at h <;> cases h; exact c_r20mean st_any hp) Sound.nil)))))))
theorem yes_bool {b : Bool} (h : b = true) : Value.bool b = .bool true := by rw [h]
theorem law_means (a b t p : Int) : Ans Tryz.prog Any 3 [wid a b, num t, num p] (.bool true) := by
  refine fn_by st_any s_Lm (vc_lawmeans a b t p _) ⟨trivial, trivial, trivial, trivial, ?_⟩
  have tail : ∀ K : Value → Prop, K (.bool true) → (True ∧
      bcase (!decide (ArcV a b)) (bcase (gate (okA a b) (oneL b) == 0 && (gate (okA a b) (oneH a) == 0 && true)) (K (Value.bool (chkE a b == 1))) (K (Value.bool false)))
      (True ∧ bcase (!decide (InA a b)) (bcase (gate (okA a b) (oneL b) == 0 && (gate (okA a b) (oneH a) == 0 && true)) (K (Value.bool (chkE a b == 2))) (K (Value.bool false))) (bcase (chkE a b == 0) (okA a b ∧ K (Value.bool (gate (okA a b) (oneL b) == oneL b && (gate (okA a b) (oneH a) == oneH a && true)))) (K (Value.bool false))))) := fun K hK => by
    refine ⟨trivial, ?_⟩
    by_cases v : ArcV a b
    · rw [decide_eq_true v, Bool.not_true, bcase_false]
      refine ⟨trivial, ?_⟩
      by_cases r : InA a b
      · have ok : okA a b := ⟨v, r⟩
        rw [decide_eq_true r, Bool.not_true, bcase_false, chk_ok ok, gate_t ok, gate_t ok, show ((0 : Int) == 0) = true from rfl, bcase_true]
        refine ⟨ok, ?_⟩
        rw [show (oneL b == oneL b && (oneH a == oneH a && true)) = true by simp]
        exact hK
      · have ok : ¬ okA a b := fun k => r k.2
        rw [decide_eq_false r, Bool.not_false, bcase_true, chk_rng v r, gate_f ok, gate_f ok, show ((0 : Int) == 0 && ((0 : Int) == 0 && true)) = true from rfl, bcase_true]
        exact hK
    · have ok : ¬ okA a b := fun k => v k.1
      rw [decide_eq_false v, Bool.not_false, bcase_true, chk_arg v, gate_f ok, gate_f ok, show ((0 : Int) == 0 && ((0 : Int) == 0 && true)) = true from rfl, bcase_true]
      exact hK
  by_cases w : Wth t p
  · rw [decide_eq_true w, Bool.not_true, bcase_false, pick_t w, show ((0 : Int) != 0) = false from rfl, bcase_false]
    refine ⟨w, ?_⟩
    rw [gate_t w, gate_t w, show (!(fN t p == fN t p && (fD t p == fD t p && true))) = false by simp, bcase_false]
    exact tail (fun v => v = .bool true) rfl
  · rw [decide_eq_false w, Bool.not_false, bcase_true, gate_f w, gate_f w, show (!((0 : Int) == 0 && ((0 : Int) == 0 && true))) = false from rfl, bcase_false, pick_f w, show ((2 : Int) != 2) = false from rfl, bcase_false]
    exact tail (fun v => v = .bool true) rfl
end Go.Proofs.YtikbpleaaaeibaaGreat
