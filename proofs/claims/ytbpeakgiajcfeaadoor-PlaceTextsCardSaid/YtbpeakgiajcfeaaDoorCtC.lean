/- Contracts of the functions of angle over texts; the chapter's examples hold. -/
import Derived.Test.YtbpeakgiajcfeaaDoorCtA
import Derived.Test.YtbpeakgiajcfeaaDoorVcB
import Derived.Test.YtbpeakgiajcfeaaDoorTextA
namespace Go.Proofs.YtbpeakgiajcfeaaDoor
open Go Go.Abs Go.RowKit
set_option linter.unusedVariables false
set_option linter.unusedSimpArgs false
section
variable {Φ : World → Prop} (hst : ∀ w w', Φ w → Below w.heap.size w w' → Φ w')
include hst
end
theorem st_tabs : ∀ w w', Tabs w → Below w.heap.size w w' → Tabs w' := fun _ _ h hb => h.below hb (Nat.le_refl _)
theorem c_textI (n : Int) (h : Fit n) : Ans Tryd.prog Tabs 40 [num n] (.string (textB n)) := by
  intro w hw
  unfold textB textL
  by_cases q : n < 0
  · rw [if_pos q]
    have := text_neg n.natAbs (by omega) (by unfold Fit at h; omega) w hw
    rwa [show (-(n.natAbs : Int)) = n by omega] at this
  · rw [if_neg q]
    have := text_pos n.natAbs (by unfold Fit at h; omega) w hw
    rwa [show ((n.natAbs : Nat) : Int) = n by omega] at this
theorem s3 : Sound Tryd.prog Tabs Γ3 := by
  unfold Γ3
  refine Sound.cons (by kernel_rfl) (fun args p v h hp => by unfold sTextI at h; split at h <;> cases h; exact c_textI _ hp) ?_
  exact s0 st_tabs
theorem c_text (n : Int) : Ans Tryd.prog Tabs 30 [num n] (pair (.string (okText n)) (num (pick (Fit n) 0 5))) := by
  refine fn_by st_tabs s3 (vc_text n _) ?_
  simp only [bcase_iff, true_and, and_true, decide_eq_true_eq, decide_eq_false_iff_not, Bool.not_eq_true', Bool.not_eq_false', Bool.not_true, Bool.not_false, beq_iff_eq, beq_eq_false_iff_ne, bne_iff_ne, ne_eq, bne_eq_false_iff_eq, Decidable.not_not, ge_iff_le, gt_iff_lt, Bool.not_eq_true, Bool.and_eq_true, Bool.or_eq_true, forall_const, imp_false, implies_true, Bool.true_eq_false, Bool.false_eq_true, false_implies, true_implies, Int.not_lt, Int.not_le, Int.zero_sub]
  unfold okText pick
  by_cases h : Fit n <;> simp [h]
theorem core_len (m : Nat) : (coreL m).length ≤ m + 40 := by
  unfold coreL
  have h1 := dec_le (m / 60000)
  have h2 := pad_len 2 (m % 60000 / 1000) (by omega) (by omega)
  have h3 := pad_len 3 (m % 1000) (by omega) (by omega)
  have h4 := dec_le (m % 1000 / 100)
  split <;> simp <;> omega
theorem textB_size {n : Int} (h : Fit n) : (textB n).size ≤ 1099511627900 := by
  unfold textB textL
  unfold Fit at h
  have := core_len n.natAbs
  split <;> simp [ByteArray.size] <;> omega
theorem not_long {a b : ByteArray} (h : a.size + b.size ≤ 9223372036854775807) : tooLong a b = false := by
  unfold tooLong
  have : IntKind.i64.max = 9223372036854775807 := rfl
  rw [this]
  exact decide_eq_false (by omega)
theorem sp_size : (ByteArray.mk #[32, 46, 46, 32]).size = 4 := rfl
theorem c_print (a b : Int) : Ans Tryd.prog Tabs 23 [arc a b] (pair (.string (printB a b)) (num (pick (Val a b) (pick (Fit (rnd a) ∧ Fit (rnd b)) 0 5) 1))) := by
  refine fn_by st_tabs s3 (vc_print a b _) ?_
  by_cases h : Val a b
  · obtain ⟨h1, h2, h3⟩ := id h
    have w1 : IntKind.i64.wrap (a + 50) = a + 50 := wrap_in (by omega)
    have w2 : IntKind.i64.wrap (b + 50) = b + 50 := wrap_in (by omega)
    have w3 : IntKind.i64.wrap ((a + 50) / 100 * 100) = rnd a := by rw [wrap_in (by omega)]; rfl
    have w4 : IntKind.i64.wrap ((b + 50) / 100 * 100) = rnd b := by rw [wrap_in (by omega)]; rfl
    simp only [w1, w2, w3, w4]
    simp only [bcase_iff, true_and, and_true, decide_eq_true_eq, decide_eq_false_iff_not, Bool.not_eq_true', Bool.not_eq_false', Bool.not_true, Bool.not_false, beq_iff_eq, beq_eq_false_iff_ne, bne_iff_ne, ne_eq, bne_eq_false_iff_eq, Decidable.not_not, ge_iff_le, gt_iff_lt, Bool.not_eq_true, Bool.and_eq_true, Bool.or_eq_true, forall_const, imp_false, implies_true, Bool.true_eq_false, Bool.false_eq_true, false_implies, true_implies, Int.not_lt, Int.not_le, Int.zero_sub]
    refine ⟨fun q => absurd h q, fun _ => ⟨⟨by unfold I64; omega, by unfold Den; omega⟩, ⟨by unfold I64; omega, by unfold Den; omega⟩, fun q => ?_, fun f1 => ⟨fun q => ?_, fun f2 => ⟨fun e => ⟨f1, ?_⟩, fun e => ⟨f1, ?_, fun _ => ⟨f2, ?_, fun _ => ?_⟩⟩⟩⟩⟩⟩
    · unfold printB prints pick; simp [h, q]
    · unfold printB prints pick; simp [h, f1, q]
    · unfold printB prints pick printL; simp [h, f1, f2, e, textB]
    · have := textB_size f1
      simp [not_long (a := textB (rnd a)) (b := ByteArray.mk #[32, 46, 46, 32]) (by rw [sp_size]; omega)]
    · have h1 := textB_size f1
      have h2 := textB_size f2
      simp [not_long (a := textB (rnd a) ++ ByteArray.mk #[32, 46, 46, 32]) (b := textB (rnd b)) (by rw [ByteArray.size_append, sp_size]; omega)]
    · unfold printB prints pick printL textB
      simp only [h, f1, f2, e, if_false, true_and, if_true, and_self]
      rw [show (ByteArray.mk #[32, 46, 46, 32]) = ⟨[32, 46, 46, 32].toArray⟩ from rfl, bytes_app, bytes_app]
  · simp only [bcase_iff, true_and, and_true, decide_eq_true_eq, decide_eq_false_iff_not, Bool.not_eq_true', Bool.not_eq_false', Bool.not_true, Bool.not_false, beq_iff_eq, beq_eq_false_iff_ne, bne_iff_ne, ne_eq, bne_eq_false_iff_eq, Decidable.not_not, ge_iff_le, gt_iff_lt, Bool.not_eq_true, Bool.and_eq_true, Bool.or_eq_true, forall_const, imp_false, implies_true, Bool.true_eq_false, Bool.false_eq_true, false_implies, true_implies, Int.not_lt, Int.not_le, Int.zero_sub]
    refine ⟨fun q => ?_, fun q => absurd q h⟩
    unfold printB prints pick; simp [h]
end Go.Proofs.YtbpeakgiajcfeaaDoor
