/- The laws of texts of places. -/
import Derived.Test.YtbpeakgiajcfeaaDoorPlF
namespace Go.Proofs.YtbpeakgiajcfeaaDoor
open Go Go.Abs Go.RowKit
set_option linter.unusedVariables false
set_option linter.unusedSimpArgs false
theorem ptB_sl (a b : Int) : SL (ptB a b) := by
  show (if vPt a b then pointL a b else []).length ≤ 4000
  split
  · rename_i h
    unfold vPt at h
    have l1 := side_len a 78 83 (by omega)
    have l2 := side_len b 69 87 (by omega)
    unfold pointL
    rw [List.length_append, List.length_cons]
    omega
  · exact Nat.zero_le _
theorem pt_parse {a b : Int} (h : vPt a b) : paB (ptB a b) = a ∧ pbB (ptB a b) = b ∧ peB (ptB a b) = 0 := by
  have e : (ptB a b).data.toList = pointL a b := by unfold ptB; rw [if_pos h]
  unfold paB pbB peB
  rw [e, point_back a b h]
  exact ⟨rfl, rfl, rfl⟩
theorem s_LB : Sound Tryd.prog VT (ΓLB ptB (fun a b => pick (vPt a b) 0 1) paB pbB peB) :=
  Sound.cons (by kernel_rfl) (fun args pr v h hp => by unfold sPlY at h; split at h <;> cases h; exact c_awake08)
  (Sound.cons (by kernel_rfl) (fun args pr v h hp => by split at h <;> cases h; exact c_plText _ _)
  (Sound.cons (by kernel_rfl) (fun args pr v h hp => by split at h <;> cases h; exact c_plParse st_vt (fun _ h => h.1) _ hp) Sound.nil))
/-- The valid point, as the law asks it. -/
theorem vpt_ask {a b : Int} {te : Int} {A B : Prop} (hte : te = pick (vPt a b) 0 1) (hA : A) :
    bcase (decide (a ≥ -5400000)) (bcase (decide (a ≤ 5400000)) (bcase (decide (b ≥ -10800000)) (bcase ((te == 0) == decide (b < 10800000)) A B) (bcase ((te == 0) == false) A B)) (bcase ((te == 0) == false) A B)) (bcase ((te == 0) == false) A B) := by
  subst hte
  by_cases h : vPt a b
  · rw [pick_yes h]
    unfold vPt at h
    exact bT (decide_eq_true (by omega)) (bT (decide_eq_true (by omega)) (bT (decide_eq_true (by omega)) (bT (by rw [decide_eq_true (by omega)]; rfl) hA)))
  · rw [pick_no h]
    refine bcase_iff.mpr ⟨fun c1 => bcase_iff.mpr ⟨fun c2 => bcase_iff.mpr ⟨fun c3 => bT ?_ hA, fun _ => bT rfl hA⟩, fun _ => bT rfl hA⟩, fun _ => bT rfl hA⟩
    have c1 := of_decide_eq_true c1
    have c2 := of_decide_eq_true c2
    have c3 := of_decide_eq_true c3
    rw [decide_eq_false (by unfold vPt at h; omega)]; rfl
theorem vpt_end {a b : Int} {te : Int} (hte : te = pick (vPt a b) 0 1) :
    bcase (decide (a ≥ -5400000)) (bcase (decide (a ≤ 5400000)) (bcase (decide (b ≥ -10800000)) (Value.bool ((te == 0) == decide (b < 10800000)) = Value.bool true) (Value.bool ((te == 0) == false) = Value.bool true)) (Value.bool ((te == 0) == false) = Value.bool true)) (Value.bool ((te == 0) == false) = Value.bool true) := by
  subst hte
  by_cases h : vPt a b
  · rw [pick_yes h]
    unfold vPt at h
    refine bT (decide_eq_true (by omega)) (bT (decide_eq_true (by omega)) (bT (decide_eq_true (by omega)) ?_))
    rw [decide_eq_true (by omega)]; rfl
  · rw [pick_no h]
    refine bcase_iff.mpr ⟨fun c1 => bcase_iff.mpr ⟨fun c2 => bcase_iff.mpr ⟨fun c3 => ?_, fun _ => rfl⟩, fun _ => rfl⟩, fun _ => rfl⟩
    have c1 := of_decide_eq_true c1
    have c2 := of_decide_eq_true c2
    have c3 := of_decide_eq_true c3
    rw [decide_eq_false (by unfold vPt at h; omega)]; rfl
theorem law_back (a b c d : Int) : Ans Tryd.prog VT 3 [arc a b, arc c d] (.bool true) := by
  refine fn_by st_vt s_LB (vc_lawBack a b c d ptB (fun a b => pick (vPt a b) 0 1) paB pbB peB _) ?_
  refine ⟨trivial, trivial, trivial, bcase_iff.mpr ⟨fun q => ?_, fun q => bcase_iff.mpr ⟨fun q2 => ?_, fun q2 => ?_⟩⟩⟩
  · exact vpt_ask rfl (vpt_end rfl)
  · exact vpt_ask rfl (vpt_end rfl)
  · have v1 : vPt a b := Decidable.byContradiction fun h => by rw [pick_no h] at q; cases q
    have v2 : vPt c d := Decidable.byContradiction fun h => by rw [pick_no h] at q2; cases q2
    obtain ⟨e1, e2, e3⟩ := pt_parse v1
    rw [e1, e2, e3]
    refine ⟨ptB_sl a b, bT rfl (bT (by simp) ?_)⟩
    have e4 : (ptB a b).toList = pointL a b := by rw [ByteArray.toList_eq]; unfold ptB; rw [if_pos v1]
    have e5 : (ptB c d).toList = pointL c d := by rw [ByteArray.toList_eq]; unfold ptB; rw [if_pos v2]
    rw [e4, e5]
    apply eq_bool
    rw [beq_iff_eq, Bool.eq_iff_iff, beq_iff_eq, Bool.and_eq_true, Bool.and_true, beq_iff_eq, beq_iff_eq]
    constructor
    · exact point_inj v1 v2
    · rintro ⟨rfl, rfl⟩; rfl
theorem s_LX : Sound Tryd.prog VT (ΓLX ptB ptB (fun a b => pick (vPt a b) 0 1) paB pbB peB ppB ppB (fun a b c d => pick (vPl a b c d) 0 1) vPt vPl (fun a b => decide (vLon a b))) :=
  Sound.cons (by kernel_rfl) (fun args pr v h hp => by unfold sPlY at h; split at h <;> cases h; exact c_awake08)
  (Sound.cons (by kernel_rfl) (fun args pr v h hp => by split at h <;> cases h; exact c_plText _ _)
  (Sound.cons (by kernel_rfl) (fun args pr v h hp => by split at h <;> cases h; exact c_plParse st_vt (fun _ h => h.1) _ hp)
  (Sound.cons (by kernel_rfl) (fun args pr v h hp => by
    split at h <;> cases h
    rename_i a b
    have := c_r8Text a b hp
    unfold ptB
    rw [if_pos hp]
    exact this)
  (Sound.cons (by kernel_rfl) (fun args pr v h hp => by split at h <;> cases h; exact c_r8Parse st_vt _ hp)
  (Sound.cons (by kernel_rfl) (fun args pr v h hp => by split at h <;> cases h; exact c_plPrint _ _ _ _ hp)
  (Sound.cons (by kernel_rfl) (fun args pr v h hp => by split at h <;> cases h; exact c_r8Print _ _ _ _ hp)
  (Sound.cons (by kernel_rfl) (fun args pr v h hp => by unfold sLonB at h; split at h <;> cases h; exact c_r8lon st_vt _ _) Sound.nil)))))))
theorem pr_end (a b c d : Int) : bcase (decide (a ≥ -5400000))
    (bcase (decide (a ≤ b)) (bcase (decide (b ≤ 5400000)) (True ∧ bcase (!decide (vLon c d)) (bcase ((ppB a b c d).toList == []) (Value.bool (pick (vPl a b c d) 0 1 == 1) = Value.bool true) (Value.bool false = Value.bool true)) (bcase (pick (vPl a b c d) 0 1 == 0) (vPl a b c d ∧ Value.bool ((ppB a b c d).toList == (ppB a b c d).toList) = Value.bool true) (Value.bool false = Value.bool true))) (bcase ((ppB a b c d).toList == []) (Value.bool (pick (vPl a b c d) 0 1 == 1) = Value.bool true) (Value.bool false = Value.bool true)))
    (bcase ((ppB a b c d).toList == []) (Value.bool (pick (vPl a b c d) 0 1 == 1) = Value.bool true) (Value.bool false = Value.bool true)))
    (bcase ((ppB a b c d).toList == []) (Value.bool (pick (vPl a b c d) 0 1 == 1) = Value.bool true) (Value.bool false = Value.bool true)) := by
  by_cases h : vPl a b c d
  · rw [pick_yes h]
    exact bT (decide_eq_true h.2.1) (bT (decide_eq_true h.1) (bT (decide_eq_true h.2.2.1) ⟨trivial, bF (by rw [decide_eq_true h.2.2.2]; rfl) (bT rfl ⟨h, by rw [beq_self_eq_true]⟩)⟩))
  · have no : bcase ((ppB a b c d).toList == []) (Value.bool (pick (vPl a b c d) 0 1 == 1) = Value.bool true) (Value.bool false = Value.bool true) := by
      rw [pick_no h]
      unfold ppB
      rw [if_neg h, ByteArray.toList_eq]
      exact bT rfl rfl
    refine bcase_iff.mpr ⟨fun c1 => bcase_iff.mpr ⟨fun c2 => bcase_iff.mpr ⟨fun c3 => ⟨trivial, bT ?_ no⟩, fun _ => no⟩, fun _ => no⟩, fun _ => no⟩
    rw [decide_eq_false (fun hv => h ⟨of_decide_eq_true c2, of_decide_eq_true c1, of_decide_eq_true c3, hv⟩)]; rfl
theorem rd_end {s : ByteArray} (h : SL s) {P Q : Prop} (hP : P) (hQ : Q) {F : Prop} : SL s ∧ SL s ∧ bcase (!(paB s == paB s && (pbB s == pbB s && true))) F (bcase (peB s != peB s) F (P ∧ Q)) :=
  ⟨h, h, bF (by simp) (bF (by simp) ⟨hP, hQ⟩)⟩
theorem law_texts (u v a b c d : Int) (hc : I64 c) (hd : I64 d) (s : ByteArray) : Ans Tryd.prog VT 4 [arc u v, .agg ⟨[.int .i64 a, .int .i64 b, .int .i64 c, .int .i64 d]⟩, .string s] (.bool true) := by
  refine fn_by st_vt s_LX (vc_lawTexts u v a b c d s ptB ptB (fun a b => pick (vPt a b) 0 1) paB pbB peB ppB ppB (fun a b c d => pick (vPl a b c d) 0 1) vPt vPl (fun a b => decide (vLon a b)) _) ?_
  refine ⟨trivial, bcase_iff.mpr ⟨fun _ => rfl, fun q => ⟨trivial, ?_⟩⟩⟩
  have q := of_decide_eq_false q
  have sl : SL s := by have := Lib.size_eq s; unfold SL; omega
  by_cases h : vPt u v
  · have h' := h
    unfold vPt at h'
    rw [pick_yes h]
    refine bT (decide_eq_true (by omega)) (bT (decide_eq_true (by omega)) (bT (decide_eq_true (by omega)) (bF (by rw [decide_eq_true (by omega)]; rfl) (bF rfl ⟨h, bF (by simp) (rd_end sl ⟨hc, hd⟩ (pr_end a b c d))⟩))))
  · have no : ((ptB u v).toList == []) = true := by
      unfold ptB
      rw [if_neg h, ByteArray.toList_eq]; rfl
    rw [pick_no h]
    have fin : ∀ {F : Prop}, bcase (!((ptB u v).toList == [])) F (bcase ((1 : Int) != 1) F (SL s ∧ SL s ∧ bcase (!(paB s == paB s && (pbB s == pbB s && true))) F (bcase (peB s != peB s) F (CdOk c d ∧ _)))) := fun {F} => bF (by rw [no]; rfl) (bF rfl (rd_end sl ⟨hc, hd⟩ (pr_end a b c d)))
    refine bcase_iff.mpr ⟨fun c1 => bcase_iff.mpr ⟨fun c2 => bcase_iff.mpr ⟨fun c3 => bT ?_ fin, fun _ => fin⟩, fun _ => fin⟩, fun _ => fin⟩
    have c1 := of_decide_eq_true c1
    have c2 := of_decide_eq_true c2
    have c3 := of_decide_eq_true c3
    rw [decide_eq_false (by unfold vPt at h; omega)]; rfl
end Go.Proofs.YtbpeakgiajcfeaaDoor
