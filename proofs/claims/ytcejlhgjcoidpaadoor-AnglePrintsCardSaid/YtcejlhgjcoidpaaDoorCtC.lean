/- Contracts of the functions of angle over texts; the chapter's examples hold. -/
import Derived.Test.YtcejlhgjcoidpaaDoorCtB
import Derived.Test.YtcejlhgjcoidpaaDoorVcB
import Derived.Test.YtcejlhgjcoidpaaDoorTextA
namespace Go.Proofs.YtcejlhgjcoidpaaDoor
open Go Go.Abs Go.RowKit
set_option linter.unusedVariables false
set_option linter.unusedSimpArgs false
theorem d_cases {a b : Int} (h : Val a b) : (21600000 ≤ b - a ∧ dLo a b = 0 ∧ dHi a b = 21600000) ∨ (b - a < 21600000 ∧ dLo a b = a % 21600000 ∧ dHi a b = a % 21600000 + (b - a)) := by
  unfold dLo dHi
  simp only [h, if_true]
  by_cases q : b - a < 21600000
  · exact .inr ⟨q, if_pos q, if_pos q⟩
  · exact .inl ⟨by omega, if_neg q, if_neg q⟩
section
variable {Φ : World → Prop} (hst : ∀ w w', Φ w → Below w.heap.size w w' → Φ w')
include hst
theorem s2 : Sound Tryd.prog Φ Γ2 := by
  unfold Γ2
  refine Sound.cons (by kernel_rfl) (fun args p v h _ => by unfold sSigned at h; split at h <;> cases h; exact c_signed hst _) ?_
  refine Sound.cons (by kernel_rfl) (fun args p v h _ => by unfold sSigned at h; split at h <;> cases h; exact c_r5signed hst _) ?_
  refine Sound.cons (by kernel_rfl) (fun args p v h _ => by unfold sInside at h; split at h <;> cases h; exact c_inside hst _ _ _ _) ?_
  refine Sound.cons (by kernel_rfl) (fun args p v h _ => by unfold sSub at h; split at h <;> cases h; exact c_sub hst _ _ _ _) ?_
  refine Sound.cons (by kernel_rfl) (fun args p v h _ => by unfold sTimes at h; split at h <;> cases h; exact c_times hst _ _ _ _) ?_
  refine Sound.cons (by kernel_rfl) (fun args p v h _ => by unfold sHull at h; split at h <;> cases h; exact c_hull hst _ _ _ _) ?_
  refine Sound.cons (by kernel_rfl) (fun args p v h _ => by unfold sMeet at h; split at h <;> cases h; exact c_meet hst _ _ _ _) ?_
  refine Sound.cons (by kernel_rfl) (fun args p v h _ => by unfold sTurn at h; split at h <;> cases h; exact c_turn hst _ _) ?_
  refine Sound.cons (by kernel_rfl) (fun args p v h _ => by unfold sAgree at h; split at h <;> cases h; exact c_agree hst _ _ _ _) ?_
  refine Sound.cons (by kernel_rfl) (fun args p v h hp => by unfold sR5Turn at h; split at h <;> cases h; exact c_r5turn hst _ _ hp) ?_
  refine Sound.cons (by kernel_rfl) (fun args p v h hp => by unfold sR5Times at h; split at h <;> cases h; exact c_r5times hst _ _ _ _ hp.1 hp.2) ?_
  exact s1 hst
theorem c_r5agree (a b c d : Int) (h : Val a b) (k : Val c d) : Ans Tryd.prog Φ 23 [arc a b, arc c d] (.bool (decide (agree a b c d))) := by
  refine fn_by hst (s2 hst) (vc_r5agree a b c d _) ?_
  have w0 : IntKind.i64.wrap (-1 + 1) = 0 := by rw [wrap_in (by omega)]; rfl
  have w1 : IntKind.i64.wrap (0 + 1) = 1 := by rw [wrap_in (by omega)]; rfl
  have w2 : IntKind.i64.wrap (-1 * 21600000) = -21600000 := by rw [wrap_in (by omega)]; rfl
  have w3 : IntKind.i64.wrap (0 * 21600000) = 0 := by rw [wrap_in (by omega)]; rfl
  have w4 : IntKind.i64.wrap (1 * 21600000) = 21600000 := by rw [wrap_in (by omega)]; rfl
  simp only [w0, w1, w2, w3, w4]
  have e1 := Int.emod_nonneg a (b := 21600000) (by omega)
  have e2 := Int.emod_lt_of_pos a (b := 21600000) (by omega)
  have e3 := Int.emod_nonneg c (b := 21600000) (by omega)
  have e4 := Int.emod_lt_of_pos c (b := 21600000) (by omega)
  have hA : agree a b c d ↔ ((c - a) % 21600000 ≤ b - a ∨ (a - c) % 21600000 ≤ d - c) := by unfold agree; simp only [h, k, true_and]
  obtain ⟨h1, h2, h3⟩ := id h
  obtain ⟨k1, k2, k3⟩ := id k
  simp only [bcase_iff, true_and, and_true, decide_eq_true_eq, decide_eq_false_iff_not, Bool.not_eq_true', Bool.not_eq_false', Bool.not_true, Bool.not_false, beq_iff_eq, beq_eq_false_iff_ne, bne_iff_ne, ne_eq, bne_eq_false_iff_eq, Decidable.not_not, ge_iff_le, gt_iff_lt, Bool.not_eq_true, Bool.and_eq_true, Bool.or_eq_true, forall_const, imp_false, implies_true, Bool.true_eq_false, Bool.false_eq_true, false_implies, true_implies, Int.not_lt, Int.not_le, Int.zero_sub]
  rcases d_cases h with ⟨p, q, r⟩ | ⟨p, q, r⟩ <;> rcases d_cases k with ⟨p', q', r'⟩ | ⟨p', q', r'⟩ <;> simp only [q, r, q', r']
  all_goals (
    repeat' (first | intro _ | apply And.intro)
    all_goals (first | exact h | exact k | (unfold I64; omega) | (apply eq_yes; rw [hA]; omega) | (apply eq_no; rw [hA]; omega) | omega))
end
theorem st_tabs : ∀ w w', Tabs w → Below w.heap.size w w' → Tabs w' := fun _ _ h hb => h.below hb (Nat.le_refl _)
theorem c_textI (n : Int) (h : Fit n) : Ans Tryd.prog Tabs 51 [num n] (.string (textB n)) := by
  intro w hw
  unfold textB textL
  by_cases q : n < 0
  · rw [if_pos q]
    have := text_neg n.natAbs (by omega) (by unfold Fit at h; omega) w hw
    rwa [show (-(n.natAbs : Int)) = n by omega] at this
  · rw [if_neg q]
    have := text_pos n.natAbs (by unfold Fit at h; omega) w hw
    rwa [show ((n.natAbs : Nat) : Int) = n by omega] at this
theorem s3 : Sound Tryd.prog Tabs Γ3 := by
  unfold Γ3
  refine Sound.cons (by kernel_rfl) (fun args p v h hp => by unfold sR5Agree at h; split at h <;> cases h; exact c_r5agree st_tabs _ _ _ _ hp.1 hp.2) ?_
  refine Sound.cons (by kernel_rfl) (fun args p v h hp => by unfold sTextI at h; split at h <;> cases h; exact c_textI _ hp) ?_
  exact s2 st_tabs
theorem c_text (n : Int) : Ans Tryd.prog Tabs 39 [num n] (pair (.string (okText n)) (num (pick (Fit n) 0 5))) := by
  refine fn_by st_tabs s3 (vc_text n _) ?_
  simp only [bcase_iff, true_and, and_true, decide_eq_true_eq, decide_eq_false_iff_not, Bool.not_eq_true', Bool.not_eq_false', Bool.not_true, Bool.not_false, beq_iff_eq, beq_eq_false_iff_ne, bne_iff_ne, ne_eq, bne_eq_false_iff_eq, Decidable.not_not, ge_iff_le, gt_iff_lt, Bool.not_eq_true, Bool.and_eq_true, Bool.or_eq_true, forall_const, imp_false, implies_true, Bool.true_eq_false, Bool.false_eq_true, false_implies, true_implies, Int.not_lt, Int.not_le, Int.zero_sub]
  unfold okText pick
  by_cases h : Fit n <;> simp [h]
theorem core_len (m : Nat) : (coreL m).length ≤ m + 40 := by
  unfold coreL
  have h1 := dec_le (m / 60000)
  have h2 := pad_len 2 (m % 60000 / 1000) (by omega) (by omega)
  have h3 := pad_len 3 (m % 1000) (by omega) (by omega)
  have h4 := dec_le (m % 1000 / 100)
  split <;> simp <;> omega
theorem textB_size {n : Int} (h : Fit n) : (textB n).size ≤ 1099511627900 := by
  unfold textB textL
  unfold Fit at h
  have := core_len n.natAbs
  split <;> simp [ByteArray.size] <;> omega
theorem not_long {a b : ByteArray} (h : a.size + b.size ≤ 9223372036854775807) : tooLong a b = false := by
  unfold tooLong
  have : IntKind.i64.max = 9223372036854775807 := rfl
  rw [this]
  exact decide_eq_false (by omega)
theorem sp_size : (ByteArray.mk #[32, 46, 46, 32]).size = 4 := rfl
theorem c_print (a b : Int) : Ans Tryd.prog Tabs 43 [arc a b] (pair (.string (printB a b)) (num (pick (Val a b) (pick (Fit (rnd a) ∧ Fit (rnd b)) 0 5) 1))) := by
  refine fn_by st_tabs s3 (vc_print a b _) ?_
  by_cases h : Val a b
  · obtain ⟨h1, h2, h3⟩ := id h
    have w1 : IntKind.i64.wrap (a + 50) = a + 50 := wrap_in (by omega)
    have w2 : IntKind.i64.wrap (b + 50) = b + 50 := wrap_in (by omega)
    have w3 : IntKind.i64.wrap ((a + 50) / 100 * 100) = rnd a := by rw [wrap_in (by omega)]; rfl
    have w4 : IntKind.i64.wrap ((b + 50) / 100 * 100) = rnd b := by rw [wrap_in (by omega)]; rfl
    simp only [w1, w2, w3, w4]
    simp only [bcase_iff, true_and, and_true, decide_eq_true_eq, decide_eq_false_iff_not, Bool.not_eq_true', Bool.not_eq_false', Bool.not_true, Bool.not_false, beq_iff_eq, beq_eq_false_iff_ne, bne_iff_ne, ne_eq, bne_eq_false_iff_eq, Decidable.not_not, ge_iff_le, gt_iff_lt, Bool.not_eq_true, Bool.and_eq_true, Bool.or_eq_true, forall_const, imp_false, implies_true, Bool.true_eq_false, Bool.false_eq_true, false_implies, true_implies, Int.not_lt, Int.not_le, Int.zero_sub]
    refine ⟨fun q => absurd h q, fun _ => ⟨⟨by unfold I64; omega, by unfold Den; omega⟩, ⟨by unfold I64; omega, by unfold Den; omega⟩, fun q => ?_, fun f1 => ⟨fun q => ?_, fun f2 => ⟨fun e => ⟨f1, ?_⟩, fun e => ⟨f1, ?_, fun _ => ⟨f2, ?_, fun _ => ?_⟩⟩⟩⟩⟩⟩
    · unfold printB prints pick; simp [h, q]
    · unfold printB prints pick; simp [h, f1, q]
    · unfold printB prints pick printL; simp [h, f1, f2, e, textB]
    · have := textB_size f1
      simp [not_long (a := textB (rnd a)) (b := ByteArray.mk #[32, 46, 46, 32]) (by rw [sp_size]; omega)]
    · have h1 := textB_size f1
      have h2 := textB_size f2
      simp [not_long (a := textB (rnd a) ++ ByteArray.mk #[32, 46, 46, 32]) (b := textB (rnd b)) (by rw [ByteArray.size_append, sp_size]; omega)]
    · unfold printB prints pick printL textB
      simp only [h, f1, f2, e, if_false, true_and, if_true, and_self]
      rw [show (ByteArray.mk #[32, 46, 46, 32]) = ⟨[32, 46, 46, 32].toArray⟩ from rfl, bytes_app, bytes_app]
  · simp only [bcase_iff, true_and, and_true, decide_eq_true_eq, decide_eq_false_iff_not, Bool.not_eq_true', Bool.not_eq_false', Bool.not_true, Bool.not_false, beq_iff_eq, beq_eq_false_iff_ne, bne_iff_ne, ne_eq, bne_eq_false_iff_eq, Decidable.not_not, ge_iff_le, gt_iff_lt, Bool.not_eq_true, Bool.and_eq_true, Bool.or_eq_true, forall_const, imp_false, implies_true, Bool.true_eq_false, Bool.false_eq_true, false_implies, true_implies, Int.not_lt, Int.not_le, Int.zero_sub]
    refine ⟨fun q => ?_, fun q => absurd q h⟩
    unfold printB prints pick; simp [h]
theorem s4 : Sound Tryd.prog Tabs Γ4 := by
  unfold Γ4
  refine Sound.cons (by kernel_rfl) (fun args p v h hp => by unfold sText at h; split at h <;> cases h; exact c_text _) ?_
  refine Sound.cons (by kernel_rfl) (fun args p v h hp => by unfold sPrint at h; split at h <;> cases h; exact c_print _ _) ?_
  exact s3
theorem c_awake : Ans Tryd.prog Tabs 11 [] (.bool true) := by
  refine fn_by st_tabs s4 (vc_awake _) ?_
  simp only [bcase_iff, true_and, and_true, decide_eq_true_eq, decide_eq_false_iff_not, Bool.not_eq_true', Bool.not_eq_false', Bool.not_true, Bool.not_false, beq_iff_eq, beq_eq_false_iff_ne, bne_iff_ne, ne_eq, bne_eq_false_iff_eq, Decidable.not_not, ge_iff_le, gt_iff_lt, Bool.not_eq_true, Bool.and_eq_true, Bool.or_eq_true, forall_const, imp_false, implies_true, Bool.true_eq_false, Bool.false_eq_true, false_implies, true_implies, Int.not_lt, Int.not_le, Int.zero_sub]
  apply eq_bool
  decide
theorem c_same (x y e u v : Int) : Ans Tryd.prog Tabs 31 [arc x y, num e, arc u v] (.bool (sameB x y e u v)) := by
  refine fn_by st_tabs s4 (vc_same x y e u v _) ?_
  unfold sameB
  by_cases h : Val u v <;> simp [bcase_iff, h] <;> grind
theorem s5 : Sound Tryd.prog Tabs Γ5 := by
  unfold Γ5
  refine Sound.cons (by kernel_rfl) (fun args p v h hp => by unfold sSame at h; split at h <;> cases h; exact c_same _ _ _ _ _) ?_
  exact Sound.cons (by kernel_rfl) (fun args p v h hp => by unfold sYes at h; split at h <;> cases h; exact c_awake) s4
end Go.Proofs.YtcejlhgjcoidpaaDoor
