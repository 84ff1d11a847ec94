/- Contracts of cmp.Or, Cmp and Root. -/
import Derived.Test.YtmghbedgfnlpoaaDoorVcC
import Derived.Test.YtmghbedgfnlpoaaDoorVcR
import Derived.Test.YtmghbedgfnlpoaaDoorCtQ
namespace Go.Proofs.YtmghbedgfnlpoaaDoor
open Go Go.Abs Go.RowKit
set_option linter.unusedVariables false
set_option linter.unusedSimpArgs false
variable {Φ : World → Prop} (hst : ∀ w w', Φ w → Below w.heap.size w w' → Φ w')
include hst
theorem s_cmp : Sound Tryd.prog Φ ΓC :=
  Sound.cons (by kernel_rfl) (fun args p v h _ => by unfold sWValid at h; split at h <;> cases h; exact c_wvalid hst _ _)
  (Sound.nil)
theorem s_root : Sound Tryd.prog Φ ΓR :=
  Sound.cons (by kernel_rfl) (fun args p v h hp => by unfold sWSizeOf at h; split at h <;> cases h; exact c_wsizeof hst _ _ hp)
  (Sound.cons (by kernel_rfl) (fun args p v h hp => by unfold sMul64 at h; split at h <;> cases h; exact c_mul64 hst _ _ hp.1 hp.2) (s_wvalid hst))
omit hst in
theorem pow61 : (2 : Int) ^ 61 = 2305843009213693952 := by decide
omit hst in
theorem bitP_half (k : Nat) : (bitP (k + 1)).fdiv (2 ^ 1) = bitP k := by
  rw [show ((2 : Int) ^ 1) = 2 from rfl, Int.fdiv_eq_ediv_of_nonneg _ (by decide)]
  cases k with
  | zero => rfl
  | succ k =>
    show (2 : Int) ^ (k + 1) / 2 = 2 ^ k
    rw [Int.pow_succ]
    exact Int.mul_ediv_cancel _ (by decide)
theorem c_wroot (a b : Int) : Ans Tryd.prog Φ 12 [wid a b] (pair (num (gate (okR a b) (rootI 61 (val a b) 0))) (num (pick (WV a b) (pick (0 ≤ a) 0 2) 1))) := by
  refine fn_by hst (s_root hst) (vc_wroot a b _) ?_
  refine ⟨trivial, ?_⟩
  simp only [bcase_iff, Bool.not_eq_true', Bool.not_eq_false', decide_eq_true_eq, decide_eq_false_iff_not]
  refine ⟨fun h => eq_pair (eq_num ?_) (eq_num ?_), fun h => ⟨fun h' => eq_pair (eq_num ?_) (eq_num ?_), fun h' => ⟨h, (0, 61), ?_, ?_, ?_⟩⟩⟩
  · rw [gate_no (fun q => h q.1)]
  · rw [pick_no h]
  · rw [gate_no (fun q => by have := q.2; omega)]
  · rw [pick_yes h, pick_no (by omega)]
  · simp [bitP]
  · exact ⟨by omega, by omega, by rw [pow61]; omega, rfl⟩
  rintro ⟨r, k⟩ ⟨h1, h2, h3, h4⟩
  simp only at h1 h2 h3 h4
  have hv := h
  unfold WV at hv
  have hV : 0 ≤ val a b ∧ val a b < 1329227995784915872903807060280344576 := by unfold val; omega
  have hab : absI (val a b) = val a b := by unfold absI; rw [if_neg (by omega)]
  rw [hab]
  rw [pow61] at h3
  generalize val a b = V at *
  cases k with
  | zero =>
    refine ⟨fun q => absurd q (by simp [bitP]), fun _ => eq_pair (eq_num ?_) (eq_num ?_)⟩
    · rw [gate_yes (show okR a b from ⟨h, by omega⟩), ← h4]
      simp only [rootI]
      exact wrap_in (by simp at h3; omega)
    · rw [pick_yes h, pick_yes (by omega)]
  | succ k =>
    have e2 : (2 : Int) ^ (k + 1) = 2 ^ k + 2 ^ k := by rw [Int.pow_succ]; omega
    have p0 : (0 : Int) < 2 ^ k := Int.pow_pos (by decide)
    have hb : bitP (k + 1) = 2 ^ k := rfl
    have hh : (bitP (k + 1)).fdiv (2 ^ 1) = bitP k := bitP_half k
    rw [e2] at h3
    rw [hh, hb]
    have hw : IntKind.u64.wrap (r + 2 ^ k) = r + 2 ^ k := by rw [wrap_u]; omega
    rw [hw]
    have hc : (r + 2 ^ k) * (r + 2 ^ k) / 18446744073709551616 < V / 18446744073709551616 ∨ (r + 2 ^ k) * (r + 2 ^ k) / 18446744073709551616 = V / 18446744073709551616 ∧ (r + 2 ^ k) * (r + 2 ^ k) % 18446744073709551616 ≤ V % 18446744073709551616 ↔ (r + 2 ^ k) * (r + 2 ^ k) ≤ V := by
      generalize (r + 2 ^ k) * (r + 2 ^ k) = t
      omega
    have yes : (r + 2 ^ k) * (r + 2 ^ k) ≤ V → ∃ s : Int × Nat, (r + 2 ^ k = s.fst ∧ bitP k = bitP s.snd ∧ True ∧ True ∧ True ∧ True ∧ True ∧ True) ∧
        (s.snd ≤ 61 ∧ 0 ≤ s.fst ∧ s.fst + 2 ^ s.snd ≤ 2 ^ 61 ∧ rootI s.snd V s.fst = rootI 61 V 0) ∧ s.snd < k + 1 := fun q =>
      ⟨(r + 2 ^ k, k), by simp, ⟨by simp only; omega, by simp only; omega, by simp only; rw [pow61]; omega, by simp only; rw [← h4, rootI, if_pos q]⟩, by simp only; omega⟩
    have no : ¬ (r + 2 ^ k) * (r + 2 ^ k) ≤ V → ∃ s : Int × Nat, (r = s.fst ∧ bitP k = bitP s.snd ∧ True ∧ True ∧ True ∧ True ∧ True ∧ True) ∧
        (s.snd ≤ 61 ∧ 0 ≤ s.fst ∧ s.fst + 2 ^ s.snd ≤ 2 ^ 61 ∧ rootI s.snd V s.fst = rootI 61 V 0) ∧ s.snd < k + 1 := fun q =>
      ⟨(r, k), by simp, ⟨by simp only; omega, by simp only; omega, by simp only; rw [pow61]; omega, by simp only; rw [← h4, rootI, if_neg q]⟩, by simp only; omega⟩
    refine ⟨fun _ => ⟨⟨by unfold U64; omega, by unfold U64; omega⟩, fun q => yes (hc.1 (.inl q)), fun q => ⟨fun q2 => ⟨fun q3 => yes (hc.1 (.inr ⟨by simpa using q2, q3⟩)), fun q3 => no (fun q4 => ?_)⟩, fun q2 => no (fun q4 => ?_)⟩⟩, fun q => absurd p0 q⟩
    · rcases hc.2 q4 with q5 | q5
      · exact q q5
      · exact q3 q5.2
    · rcases hc.2 q4 with q5 | q5
      · exact q q5
      · exact absurd q5.1 (by simpa using q2)
end Go.Proofs.YtmghbedgfnlpoaaDoor
