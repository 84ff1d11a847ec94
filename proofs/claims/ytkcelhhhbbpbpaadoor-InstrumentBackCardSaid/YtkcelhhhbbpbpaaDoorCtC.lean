/- Contracts of the functions of angle over texts; the chapter's examples hold. -/
import Derived.Test.YtkcelhhhbbpbpaaDoorMrgS
import Derived.Test.YtkcelhhhbbpbpaaDoorTextA
namespace Go.Proofs.YtkcelhhhbbpbpaaDoor
open Go Go.Abs Go.RowKit
set_option linter.unusedVariables false
set_option linter.unusedSimpArgs false
section
variable {Φ : World → Prop} (hst : ∀ w w', Φ w → Below w.heap.size w w' → Φ w')
include hst
end
theorem st_tabs : ∀ w w', Tabs w → Below w.heap.size w w' → Tabs w' := fun _ _ h hb => h.below hb (Nat.le_refl _)
theorem c_textI (n : Int) (h : Fit n) : Ans Tryd.prog Tabs 31 [num n] (.string (textB n)) := by
  intro w hw
  unfold textB textL
  by_cases q : n < 0
  · rw [if_pos q]
    have := text_neg n.natAbs (by omega) (by unfold Fit at h; omega) w hw
    rwa [show (-(n.natAbs : Int)) = n by omega] at this
  · rw [if_neg q]
    have := text_pos n.natAbs (by unfold Fit at h; omega) w hw
    rwa [show ((n.natAbs : Nat) : Int) = n by omega] at this
theorem s3 : Sound Tryd.prog Tabs Γ3 := by
  unfold Γ3
  refine Sound.cons (by kernel_rfl) (fun args p v h hp => by unfold sTextI at h; split at h <;> cases h; exact c_textI _ hp) ?_
  exact s0 st_tabs
theorem c_text (n : Int) : Ans Tryd.prog Tabs 17 [num n] (pair (.string (okText n)) (num (pick (Fit n) 0 5))) := by
  refine fn_by st_tabs s3 (vc_text n _) ?_
  simp only [bcase_iff, true_and, and_true, decide_eq_true_eq, decide_eq_false_iff_not, Bool.not_eq_true', Bool.not_eq_false', Bool.not_true, Bool.not_false, beq_iff_eq, beq_eq_false_iff_ne, bne_iff_ne, ne_eq, bne_eq_false_iff_eq, Decidable.not_not, ge_iff_le, gt_iff_lt, Bool.not_eq_true, Bool.and_eq_true, Bool.or_eq_true, forall_const, imp_false, implies_true, Bool.true_eq_false, Bool.false_eq_true, false_implies, true_implies, Int.not_lt, Int.not_le, Int.zero_sub]
  unfold okText pick
  by_cases h : Fit n <;> simp [h]
theorem core_len (m : Nat) : (coreL m).length ≤ m + 40 := by
  unfold coreL
  have h1 := dec_le (m / 60000)
  have h2 := pad_len 2 (m % 60000 / 1000) (by omega) (by omega)
  have h3 := pad_len 3 (m % 1000) (by omega) (by omega)
  have h4 := dec_le (m % 1000 / 100)
  split <;> simp <;> omega
theorem textB_size {n : Int} (h : Fit n) : (textB n).size ≤ 1099511627900 := by
  unfold textB textL
  unfold Fit at h
  have := core_len n.natAbs
  split <;> simp [ByteArray.size] <;> omega
theorem not_long {a b : ByteArray} (h : a.size + b.size ≤ 9223372036854775807) : tooLong a b = false := by
  unfold tooLong
  have : IntKind.i64.max = 9223372036854775807 := rfl
  rw [this]
  exact decide_eq_false (by omega)
theorem sp_size : (ByteArray.mk #[32, 46, 46, 32]).size = 4 := rfl
end Go.Proofs.YtkcelhhhbbpbpaaDoor
