/- Contracts of quotient, Floor, Ceil. -/
import Derived.Test.YtidhogcijghogaaGreatDoorCtD
namespace Go.Proofs.YtidhogcijghogaaGreatDoor
open Go Go.Abs Go.RowKit
set_option linter.unusedVariables false
set_option linter.unusedSimpArgs false
/-- One more, if something is left and it counts. -/
def more (R : Int) (c : Bool) : Int := if R > 0 ∧ c = true then 1 else 0
theorem neg_ediv' {A m : Int} (hm : 0 < m) : (-A) / m = -(A / m + more (A % m) true) := by
  have e := Int.mul_ediv_add_emod A m
  have r0 := Int.emod_nonneg A (show m ≠ 0 by omega)
  have r1 := Int.emod_lt_of_pos A hm
  generalize A / m = Q at *
  generalize A % m = R at *
  unfold more
  by_cases h : R > 0
  · rw [if_pos ⟨h, rfl⟩]
    have : -A = (m - R) + (-(Q + 1)) * m := by rw [← e]; grind
    rw [this, Int.add_mul_ediv_right _ _ (by omega), Int.ediv_eq_zero_of_lt (by omega) (by omega)]
    omega
  · have : R = 0 := by omega
    subst this
    rw [if_neg (fun q => h q.1)]
    have : -A = (-Q) * m := by rw [← e]; grind
    rw [this, Int.mul_ediv_cancel _ (by omega)]
    omega
theorem quoI_abs {V n : Int} (up : Bool) (hn : n ≠ 0) :
    quoI V n up = if decide (V < 0) = decide (n < 0) then absI V / absI n + more (absI V % absI n) up else -(absI V / absI n + more (absI V % absI n) (!up)) := by
  have em : ∀ x : Int, more x false = 0 := fun x => by unfold more; simp
  have fd : ∀ {a m : Int}, 0 < m → a.fdiv m = a / m := fun {a m} h => Int.fdiv_eq_ediv_of_nonneg a (by omega)
  have fn : ∀ {a m : Int}, m < 0 → a.fdiv m = (-a) / (-m) := fun {a m} h => by rw [← fd (by omega), Int.neg_fdiv_neg]
  unfold quoI
  rcases absI_cases V with ⟨h1, e1⟩ | ⟨h1, e1⟩ <;> rcases absI_cases n with ⟨h2, e2⟩ | ⟨h2, e2⟩ <;> rw [e1, e2] <;> cases up <;> simp only [Bool.false_eq_true, if_false, if_true, Bool.not_true, Bool.not_false, em]
  · rw [if_pos (by simp [h1, h2]), fn h2]; omega
  · rw [if_pos (by simp [h1, h2]), fn h2, neg_ediv' (by omega)]; omega
  · rw [if_neg (by simp [h1]; omega), fd (by omega), show V = -(-V) by omega, neg_ediv' (by omega), Int.neg_neg]
  · rw [if_neg (by simp [h1]; omega), fd (by omega)]; omega
  · rw [if_neg (by simp [h2]; omega), fn h2, neg_ediv' (by omega)]
  · rw [if_neg (by simp [h2]; omega), fn h2, Int.neg_neg]; omega
  · rw [if_pos (by simp; omega), fd (by omega)]; omega
  · rw [if_pos (by simp; omega), fd (by omega), neg_ediv' (by omega)]; omega
variable {Φ : World → Prop} (hst : ∀ w w', Φ w → Below w.heap.size w w' → Φ w')
include hst
theorem s_quo : Sound Tryz.prog Φ ΓQ :=
  Sound.cons (by kernel_rfl) (fun args p v h hp => by unfold sWSizeOf at h; split at h <;> cases h; exact c_wsizeof hst _ _ hp)
  (Sound.cons (by kernel_rfl) (fun args p v h hp => by unfold sWAbs at h; split at h <;> cases h; exact c_wabs hst _ hp)
  (Sound.cons (by kernel_rfl) (fun args p v h hp => by unfold sDiv64 at h; split at h <;> cases h; exact c_div64 hst _ _ _ hp.1 hp.2.1 hp.2.2.1 hp.2.2.2) (s_wvalid hst)))
omit hst in
theorem q_ok {h l b x : Int} {up : Bool} (hv : WV h l) (hb : b ≠ 0) (hx : x = quoI (val h l) b up) (hi : I64 x) : Value.tuple #[.int .i64 x, .int .i64 0] = qAns h l b up := by
  subst hx
  exact eq_pair (eq_num (gate_yes (show okQ h l b up from ⟨hv, hb, hi⟩) _).symm) (eq_num (by rw [pick_yes hv, pick_no hb, pick_yes hi]))
omit hst in
theorem q_big {h l b : Int} {up : Bool} (hv : WV h l) (hb : b ≠ 0) (hi : ¬ I64 (quoI (val h l) b up)) : Value.tuple #[.int .i64 0, .int .i64 5] = qAns h l b up :=
  eq_pair (eq_num (gate_no (fun q : okQ h l b up => hi q.2.2) _).symm) (eq_num (by rw [pick_yes hv, pick_no hb, pick_no hi]))
theorem c_wquotient (a b n : Int) (up : Bool) (hn : I64 n) : Ans Tryz.prog Φ 83 [wid a b, num n, .bool up] (qAns a b n up) := by
  refine fn_by hst (s_quo hst) (vc_wquotient a b n up _) ?_
  refine ⟨trivial, ?_⟩
  by_cases hv : ¬ WV a b
  · rw [decide_eq_false hv]
    exact eq_pair (eq_num (gate_no (fun q : okQ a b n up => hv q.1) _).symm) (eq_num (by rw [pick_no hv]))
  have hv := Decidable.not_not.1 hv
  rw [decide_eq_true hv]
  by_cases hz : n = 0
  · subst hz
    exact eq_pair (eq_num (gate_no (fun q : okQ a b 0 up => q.2.1 rfl) _).symm) (eq_num (by rw [pick_yes hv, pick_yes rfl]))
  have hz' : (n == 0) = false := by simp [hz]
  rw [hz']
  refine ⟨hv, hn, ?_⟩
  have ok := @q_ok a b n
  have big := @q_big a b n up hv hz
  rw [quoI_abs up hz] at big
  have hq : ∀ x, x = quoI (val a b) n up → I64 x → Value.tuple #[.int .i64 x, .int .i64 0] = qAns a b n up := fun x => q_ok hv hz
  rw [quoI_abs up hz] at hq
  have hV : -1329227995784915872903807060280344576 ≤ val a b ∧ val a b < 1329227995784915872903807060280344576 := by unfold WV at hv; unfold val; omega
  unfold I64 at hn
  have qa := absI_cases (val a b)
  have qn := absI_cases n
  generalize val a b = V at *
  have hA0 : 0 ≤ absI V := by omega
  have hD : 0 < absI n := by omega
  have eA : absI V / 18446744073709551616 * 18446744073709551616 + absI V % 18446744073709551616 = absI V := by omega
  rw [eA]
  have r0 := Int.emod_nonneg (absI V) (show absI n ≠ 0 by omega)
  have r1 := Int.emod_lt_of_pos (absI V) hD
  have e := Int.mul_ediv_add_emod (absI V) (absI n)
  have q0 : 0 ≤ absI V / absI n := Int.ediv_nonneg hA0 (by omega)
  by_cases hb : absI V / 18446744073709551616 ≥ absI n
  · rw [decide_eq_true hb]
    refine big ?_
    have hbig : 18446744073709551616 ≤ absI V / absI n := (Int.le_ediv_iff_mul_le hD).2 (by omega)
    unfold I64 more
    split <;> split <;> omega
  rw [decide_eq_false hb]
  refine ⟨⟨by unfold U64; omega, by unfold U64; omega, by unfold U64; omega, by omega⟩, ?_⟩
  have hq1 : absI V / absI n < 18446744073709551616 := Int.ediv_lt_of_lt_mul hD (by rw [Int.mul_comm]; omega)
  generalize absI V / absI n = Q at *
  generalize absI V % absI n = R at *
  have w1 : ∀ {x : Int}, 0 ≤ x → x < 18446744073709551616 → IntKind.u64.wrap x = x := fun {x} h1 h2 => by rw [wrap_u]; omega
  have w3 : ∀ {x : Int}, 0 ≤ x → x ≤ 9223372036854775808 → IntKind.i64.wrap (IntKind.u64.wrap (0 - x)) = -x := fun {x} h1 h2 => by
    rw [wrap_u]
    rcases Int.lt_or_le 0 x with h | h
    · rw [wrap_up (by omega) (by omega)]; omega
    · have : x = 0 := by omega
      subst this; rfl
  have w4 : ∀ {x : Int}, 0 ≤ x → x < 9223372036854775808 → IntKind.i64.wrap x = x := fun {x} h1 h2 => wrap_in (by omega)
  generalize decide (V < 0) = s1 at *
  generalize decide (n < 0) = s2 at *
  generalize qAns a b n up = ans at *
  clear ok
  by_cases hR : R > 0
  · rw [decide_eq_true hR]
    by_cases hQ : Q = 18446744073709551615
    · have e1 : IntKind.u64.wrap (Q + 1) = 0 := by rw [hQ]; rfl
      rw [e1]
      unfold more I64 at big
      unfold more I64 at hq
      cases s1 <;> cases s2 <;> cases up <;> simp only [Bool.not_true, Bool.not_false, Bool.true_beq, Bool.false_beq, decide_true, decide_false, reduceCtorEq, Bool.true_eq_false, Bool.false_eq_true, beq_self_eq_true, true_implies, bcase_true, bcase_false, if_true, if_false, hR, true_and, and_true, and_false, Int.add_zero, hQ] at big hq ⊢ <;> first | exact big (by omega) | (simp only [bcase_iff, decide_eq_true_eq, decide_eq_false_iff_not]; exact ⟨fun h => absurd h (by decide), fun _ => big (by omega)⟩)
    · have e1 : IntKind.u64.wrap (Q + 1) = Q + 1 := w1 (by omega) (by omega)
      have e2 : (Q + 1 == 0) = false := by simp; omega
      rw [e1, e2]
      unfold more I64 at big
      unfold more I64 at hq
      cases s1 <;> cases s2 <;> cases up <;> simp only [Bool.not_true, Bool.not_false, Bool.true_beq, Bool.false_beq, decide_true, decide_false, reduceCtorEq, Bool.true_eq_false, Bool.false_eq_true, beq_self_eq_true, true_implies, bcase_true, bcase_false, if_true, if_false, hR, true_and, and_true, and_false, Int.add_zero] at big hq ⊢ <;> simp only [bcase_iff, decide_eq_true_eq, decide_eq_false_iff_not] <;> refine ⟨fun h => ?_, fun h => ?_⟩ <;>
        first | exact big (by omega) | (rw [w3 (by omega) (by omega)]; exact hq _ (by omega) (by omega)) | (rw [w4 (by omega) (by omega)]; exact hq _ (by omega) (by omega))
  · rw [decide_eq_false hR]
    unfold more I64 at big
    unfold more I64 at hq
    cases s1 <;> cases s2 <;> cases up <;> simp only [Bool.not_true, Bool.not_false, Bool.true_beq, Bool.false_beq, decide_true, decide_false, reduceCtorEq, Bool.true_eq_false, Bool.false_eq_true, beq_self_eq_true, true_implies, bcase_true, bcase_false, if_true, if_false, hR, true_and, and_true, and_false, false_and, Int.add_zero] at big hq ⊢ <;> simp only [bcase_iff, decide_eq_true_eq, decide_eq_false_iff_not] <;> refine ⟨fun h => ?_, fun h => ?_⟩ <;>
        first | exact big (by omega) | (rw [w3 (by omega) (by omega)]; exact hq _ (by omega) (by omega)) | (rw [w4 (by omega) (by omega)]; exact hq _ (by omega) (by omega))
theorem s_wquo : Sound Tryz.prog Φ ΓT :=
  Sound.cons (by kernel_rfl) (fun args p v h hp => by unfold sWQuotient at h; split at h <;> cases h; exact c_wquotient hst _ _ _ _ hp) Sound.nil
theorem c_wfloor (a b n : Int) (hn : I64 n) : Ans Tryz.prog Φ 64 [wid a b, num n] (qAns a b n false) := by
  refine fn_by hst (s_wquo hst) (vc_wfloor a b n _) ?_
  exact ⟨hn, rfl⟩
theorem c_wceil (a b n : Int) (hn : I64 n) : Ans Tryz.prog Φ 65 [wid a b, num n] (qAns a b n true) := by
  refine fn_by hst (s_wquo hst) (vc_wceil a b n _) ?_
  exact ⟨hn, rfl⟩
end Go.Proofs.YtidhogcijghogaaGreatDoor
