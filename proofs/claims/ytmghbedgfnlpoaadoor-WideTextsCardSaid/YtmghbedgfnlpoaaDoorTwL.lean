/- Contracts: the reference's text of a wide integer; the law. -/
import Derived.Test.YtmghbedgfnlpoaaDoorTwC
namespace Go.Proofs.YtmghbedgfnlpoaaDoor
open Go Go.Abs Go.RowKit
set_option linter.unusedVariables false
set_option linter.unusedSimpArgs false
theorem dig_getD (r : Nat) (h : r < 10) : (dig r).getD 0 0 = (r : Int) := by
  by_cases q : r = 0
  · subst q; rfl
  · rw [dig_pos q, List.getD_cons_zero]
    congr 1
    omega
theorem digit_str (r : Nat) (h : r < 10) : strV [IntKind.u8.wrap (IntKind.i64.wrap (48 + (r : Int)))] = bz [UInt8.ofNat (48 + r)] := by
  have w8 : IntKind.u8.wrap (48 + (r : Int)) = ((48 + r : Nat) : Int) := by
    rw [show IntKind.u8.wrap (48 + (r : Int)) = (48 + (r : Int)) % 256 from rfl]; omega
  rw [wrap_in (by omega), w8]
  rfl
theorem dig_cast {v w : Nat} (h : v = w) : dig v = dig w := by rw [h]
section
variable {Φ : World → Prop} (hst : ∀ w w', Φ w → Below w.heap.size w w' → Φ w')
include hst
theorem c_rtext (a b : Int) (h : WV a b) : Ans Tryd.prog Φ 7 [wid a b] (.string (twA a b)) := by
  generalize hm : (val a b).natAbs = m
  have h' := h
  unfold WV at h'
  have hmb : m < 1329227995784915872903807060280344577 := by unfold val at hm; omega
  refine fn_by hst (Sound.rcons (by kernel_rfl) (fun ads p rds h hp => by unfold sOfWide at h; split at h <;> cases h; exact c_ofWide hst _ _ hp.1 hp.2)
    (Sound.rcons (by kernel_rfl) (fun ads p rds h hp => by unfold sOver at h; split at h <;> cases h; exact c_over hst _ _ hp.1 hp.2.1 hp.2.2.1 hp.2.2.2) Sound.nil)) (vc_rtext a b m _) ?_
  rw [hm]
  have etw : twA a b = bz ((if val a b < 0 then [45] else []) ++ Lib.decDigits m) := by unfold twA twB twL; rw [if_pos h, hm]; rfl
  rw [etw]
  refine ⟨⟨by unfold I64; omega, by unfold I64; omega⟩, bcase_iff.mpr ⟨fun q => ?_, fun q => ?_⟩⟩
  · have q : m = 0 := dig_nil.mp (eq_of_beq q)
    have v0 : val a b = 0 := by omega
    rw [if_neg (by omega), q, dec_lt 0 (by omega)]
    rfl
  · have q : m ≠ 0 := fun e => by
      rw [e] at q
      revert q; decide
    refine ⟨(m, []), ⟨rfl, rfl, rfl, rfl, rfl, rfl, rfl, trivial⟩, ⟨Nat.le_refl _, by rw [List.append_nil]⟩, fun s ⟨s1, s2⟩ => ?_⟩
    obtain ⟨v, l⟩ := s
    dsimp only at s1 s2 ⊢
    have hl : l.length ≤ 40 := by
      have e := congrArg List.length s2
      rw [List.length_append] at e
      have := digL_len 40 m 0 (by omega)
      omega
    refine bcase_iff.mpr ⟨fun c => ?_, fun c => ?_⟩
    · have c := of_decide_eq_true c
      have v0 : v ≠ 0 := fun e => by
        rw [e] at c
        revert c; decide
      have canv : Can (dig v) := Can_dig (by
        have : (268435456 : Nat) ^ 50 = 268435456 ^ 5 * 268435456 ^ 45 := by rw [← Nat.pow_add]
        have h5 : v < 268435456 ^ 5 := Nat.lt_of_le_of_lt s1 (by omega)
        rw [this]
        exact Nat.lt_of_lt_of_le h5 (Nat.le_mul_of_pos_right _ (Nat.pow_pos (by omega))))
      refine tk ?_
      rw [nv_dig]
      refine ⟨⟨canv, by refine ⟨by decide, by decide⟩, by decide, by decide⟩, ?_⟩
      have step : ∀ E, E = bz [UInt8.ofNat (48 + v % 10)] → bcase (tooLong E (ByteArray.mk l.toArray)) False (∃ (s_1 : Nat × List UInt8), (E ++ ByteArray.mk l.toArray = ByteArray.mk s_1.snd.toArray ∧ (dig (v / 10)).length = (dig s_1.fst).length ∧ a = a ∧ b = b ∧ (dig m).length = (dig m).length ∧ decide (val a b < 0) = decide (val a b < 0) ∧ dig (v / 10) = dig s_1.fst ∧ True) ∧ (s_1.fst ≤ m ∧ digL s_1.fst 0 ++ s_1.snd = digL m 0) ∧ s_1.fst < v) := fun E hE => by
        subst hE
        refine bF (not_long (by rw [bz_size]; show 1 + (bz l).size ≤ _; rw [bz_size]; omega)) ⟨(v / 10, UInt8.ofNat (48 + v % 10) :: l), ⟨?_, rfl, rfl, rfl, rfl, rfl, rfl, trivial⟩, ⟨by show v / 10 ≤ m; omega, ?_⟩, by show v / 10 < v; omega⟩
        · exact bz_app _ _
        · show digL (v / 10) 0 ++ UInt8.ofNat (48 + v % 10) :: l = _
          rw [← s2, digL_step (n := v) (k := 0) (by omega)]
          simp
      refine bcase_iff.mpr ⟨fun r => ?_, fun r => ?_⟩
      · have r := of_decide_eq_true r
        have g := dig_getD (v % 10) (by omega)
        refine bT (by unfold inB; simp; omega) (bT (Nat.ble_eq_true_of_le (by show 0 + 1 ≤ _; omega)) ?_)
        rw [g]
        exact step _ (digit_str (v % 10) (by omega))
      · have r := of_decide_eq_false r
        have r0 : v % 10 = 0 := dig_nil.mp (by omega)
        have := step (strV [IntKind.u8.wrap (IntKind.i64.wrap (48 + 0))]) (by rw [r0]; exact digit_str 0 (by omega))
        exact this
    · have c := of_decide_eq_false c
      have v0 : v = 0 := dig_nil.mp (by omega)
      subst v0
      rw [digL_zero, List.nil_append] at s2
      have e : l = Lib.decDigits m := by
        rw [s2, ← digL_one, digL_step (n := m) (k := 0) (by omega), digL_step (n := m) (k := 1) (by omega)]
      have el : ByteArray.mk l.toArray = bz l := rfl
      rw [el]
      refine bcase_iff.mpr ⟨fun n => ?_, fun n => ?_⟩
      · have s1' : (ByteArray.mk #[45]).size = 1 := rfl
        refine bF (not_long (by rw [bz_size]; omega)) ?_
        rw [if_pos (of_decide_eq_true n), show ByteArray.mk #[45] = bz [45] from rfl, bz_app, e]
      · rw [if_neg (of_decide_eq_false n), e]
        rfl
end
theorem law_texts2 (a b : Int) (ha : I64 a) (hb : I64 b) : Ans Tryd.prog Tabs 3 [wid a b] (.bool true) := by
  refine fn_by st_tabs (Sound.cons (by kernel_rfl) (fun args p v h hp => by unfold sAwake at h; split at h <;> cases h; exact c_awake st_tabs)
    (Sound.cons (by kernel_rfl) (fun args p v h hp => by split at h <;> cases h; exact c_wtext _ _)
    (Sound.cons (by kernel_rfl) (fun args p v h hp => by unfold sValidR at h; split at h <;> cases h; exact c_validR st_tabs _ _)
    (Sound.cons (by kernel_rfl) (fun args p v h hp => by split at h <;> cases h; exact c_rtext st_tabs _ _ hp) Sound.nil)))) (vc_lawTexts a b twA (fun a b => pick (WV a b) 0 1) twA _) ?_
  refine ⟨trivial, trivial, ⟨ha, hb⟩, bcase_iff.mpr ⟨fun q => ?_, fun q => ?_⟩⟩
  · have q : ¬ WV a b := by simpa using q
    have e : ((twA a b).toList == []) = true := by unfold twA; rw [if_neg q, ByteArray.toList_eq]; rfl
    refine bT e ?_
    unfold pick
    rw [if_neg q]; rfl
  · have q : WV a b := by simpa using q
    refine ⟨q, bT (by rw [beq_self_eq_true]) ?_⟩
    unfold pick
    rw [if_pos q]; rfl
end Go.Proofs.YtmghbedgfnlpoaaDoor
