/- The laws of wide that are checked without the reference. -/
import Derived.Test.YtmghbedgfnlpoaaDoorVcL
import Derived.Test.YtmghbedgfnlpoaaDoorCtC
namespace Go.Proofs.YtmghbedgfnlpoaaDoor
open Go Go.Abs Go.RowKit
set_option linter.unusedVariables false
set_option linter.unusedSimpArgs false
theorem F120_WV {v : Int} (h : F120 v) : WV (hiO v) (loO v) := by unfold F120 at h; unfold WV hiO loO; omega
theorem val_O (v : Int) : val (hiO v) (loO v) = v := by unfold val hiO loO; omega
theorem O_val {h l : Int} (hv : WV h l) : hiO (val h l) = h ∧ loO (val h l) = l := by unfold WV at hv; unfold hiO loO val; omega
theorem WV_F120 {h l : Int} (hv : WV h l) : F120 (val h l) := by unfold WV at hv; unfold F120 val; omega
theorem quo_mul {a b : Int} (hb : b ≠ 0) (up : Bool) : quoI (a * b) b up = a := by
  unfold quoI
  cases up
  · simp only [Bool.false_eq_true, if_false]; exact Int.mul_fdiv_cancel a hb
  · simp only [if_true]
    rw [show -(a * b) = (-a) * b by grind, Int.mul_fdiv_cancel _ hb]
    omega
variable {Φ : World → Prop} (hst : ∀ w w', Φ w → Below w.heap.size w w' → Φ w')
include hst
theorem s_A : Sound Tryd.prog Φ ΓA :=
  Sound.cons (by kernel_rfl) (fun args p v h hp => by unfold sWProduct at h; split at h <;> cases h; exact c_wproduct hst _ _ hp.1 hp.2)
  (Sound.cons (by kernel_rfl) (fun args p v h hp => by unfold sWFloor at h; split at h <;> cases h; exact c_wfloor hst _ _ _ hp)
  (Sound.cons (by kernel_rfl) (fun args p v h hp => by unfold sWCeil at h; split at h <;> cases h; exact c_wceil hst _ _ _ hp)
  (Sound.cons (by kernel_rfl) (fun args p v h hp => by unfold sWOf at h; split at h <;> cases h; exact c_wof hst _ hp)
  (Sound.cons (by kernel_rfl) (fun args p v h _ => by unfold sWRoot at h; split at h <;> cases h; exact c_wroot hst _ _) Sound.nil))))
theorem c_awake : Ans Tryd.prog Φ 4 [] (.bool true) := by
  refine fn_by hst (s_A hst) (vc_awake _) ?_
  refine ⟨⟨by unfold I64; decide, by unfold I64; decide⟩, by unfold I64; decide, by unfold I64; decide, by unfold I64; decide, by unfold I64; decide, trivial, by unfold I64; decide, ?_⟩
  have : (gate (okR 2097152 0) (rootI 61 (val 2097152 0) 0) == 1554944255987) = true := by decide +kernel
  rw [this]
theorem s_L : Sound Tryd.prog Φ ΓL :=
  Sound.cons (by kernel_rfl) (fun args p v h _ => by unfold sAwake at h; split at h <;> cases h; exact c_awake hst)
  (Sound.cons (by kernel_rfl) (fun args p v h _ => by unfold sWValid at h; split at h <;> cases h; exact c_wvalid hst _ _) (s_A hst))
omit hst in
theorem root_ok {h l : Int} (hv : WV h l) (h0 : 0 ≤ h) : ∃ r, rootI 61 (val h l) 0 = r ∧ 0 ≤ r ∧ r ≤ 1152921504606846975 ∧ r * r ≤ val h l ∧ val h l < (r + 1) * (r + 1) := by
  have hV : 0 ≤ val h l ∧ val h l < 1329227995784915872903807060280344576 := by unfold WV at hv; unfold val; omega
  obtain ⟨a, b, c⟩ := rootI_spec 61 (val h l) 0 (by omega) (by simpa using hV.1) (by rw [pow61]; omega)
  refine ⟨_, rfl, c, ?_, a, b⟩
  generalize rootI 61 (val h l) 0 = r at *
  rcases Int.lt_or_le r 1152921504606846976 with q | q
  · omega
  · have := Int.mul_le_mul q q (by decide) (by omega)
    omega
omit hst in
theorem sq_root {k r : Int} (hk : 0 ≤ k) (hr : 0 ≤ r) (h1 : r * r ≤ k * k) (h2 : k * k < (r + 1) * (r + 1)) : r = k := by
  rcases Int.lt_trichotomy r k with q | q | q
  · have := Int.mul_le_mul (show r + 1 ≤ k by omega) (show r + 1 ≤ k by omega) (by omega) hk
    omega
  · exact q
  · have := Int.mul_le_mul (show k + 1 ≤ r by omega) (show k + 1 ≤ r by omega) (by omega) hr
    have e : (k + 1) * (k + 1) = k * k + 2 * k + 1 := by grind
    omega
end Go.Proofs.YtmghbedgfnlpoaaDoor
