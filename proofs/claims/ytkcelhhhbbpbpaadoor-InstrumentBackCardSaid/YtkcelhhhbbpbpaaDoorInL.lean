/- The two laws of texts of instruments. -/
import Derived.Test.YtkcelhhhbbpbpaaDoorInLV
import Derived.Test.YtkcelhhhbbpbpaaDoorInH
import Derived.Test.YtkcelhhhbbpbpaaDoorMrgW
namespace Go.Proofs.YtkcelhhhbbpbpaaDoor
open Go Go.Abs Go.RowKit
set_option linter.unusedVariables false
set_option linter.unusedSimpArgs false
theorem s_Lw : Sound Tryd.prog VT (ΓLw itB (fun k xs => pick (Valid18 k xs) 0 1) vldB (fun s => (pI s.data.toList).1) (fun s => (pI s.data.toList).2.1) (fun s => ((pI s.data.toList).2.2.1 : Int)) (fun s => posC (pI s.data.toList).2.2.1) (fun s => (pI s.data.toList).2.2.2) (fun k xs j ys => decide (k = j ∧ xs = ys))) :=
  Sound.cons (by kernel_rfl) (fun args p v h hp => by split at h <;> cases h; exact fun w _ => awake_any w)
  (Sound.rcons (by kernel_rfl) (fun ads p rds h hp => by split at h <;> cases h; exact r_insText _ _)
  (Sound.rcons (by kernel_rfl) (fun ads p rds h hp => by split at h <;> cases h; exact r_valid _ _)
  (Sound.rcons (by kernel_rfl) (fun ads p rds h hp => by split at h <;> cases h; exact r_rfValid _ _)
  (Sound.rcons (by kernel_rfl) (fun ads p rds h hp => by split at h <;> cases h; exact r_rfText _ _ (of_decide_eq_true hp))
  (Sound.rcons (by kernel_rfl) (fun ads p rds h hp => by split at h <;> cases h; exact r_insParse _ hp)
  (Sound.rcons (by kernel_rfl) (fun ads p rds h hp => by split at h <;> cases h; exact r_rfParse _ hp)
  (Sound.rcons (by kernel_rfl) (fun ads p rds h hp => by split at h <;> cases h; exact r_same st_vt _ _ _ _ hp) Sound.nil)))))))
theorem pI_len (L : List UInt8) : (pI L).2.1.length ≤ 1000000 := by
  unfold pI
  split
  · split
    · split
      · exact Nat.zero_le _
      · split
        · rename_i h; have := h.2.2.1; dsimp only; omega
        · exact Nat.zero_le _
    · exact Nat.zero_le _
  · exact Nat.zero_le _
theorem sl_of {s : ByteArray} (h : (s.size : Int) ≤ 3000) : SL s := by
  unfold SL
  have := Lib.size_eq s
  omega
theorem ba_toList (s : ByteArray) : s.toList = s.data.toList := ByteArray.toList_eq s
theorem posC_pos {n : Nat} (h : n ≠ 0) : posC n = 1 := if_neg h
theorem it_self (s : ByteArray) : (!(s.toList == s.toList)) = false := by rw [beq_self_eq_true]; rfl
theorem ba_beq (s t : ByteArray) : (s.toList == t.toList) = decide (s = t) := by
  rw [ba_toList, ba_toList]
  by_cases h : s = t
  · subst h; simp
  · rw [decide_eq_false h, beq_eq_false_iff_ne]
    exact fun e => h (ByteArray.ext (Array.toList_inj.mp e))
theorem law_texts (k : Int) (xs : List (Int × Int)) (s : ByteArray) : RAns Tryd.prog VT 3 [insA k xs, .one (.v (.string s))] [.one (.v (.bool true))] := by
  refine rfn_by st_vt s_Lw (vc_lawTexts k xs s _ _ _ _ _ _ _ _ _) ?_
  refine ⟨trivial, bcase_iff.mpr ⟨fun _ => ⟨rfl, trivial⟩, fun q1 => bcase_iff.mpr ⟨fun _ => ⟨rfl, trivial⟩, fun q2 => ?_⟩⟩⟩
  have hs : SL s := sl_of (by have := of_decide_eq_false q2; omega)
  have hl := pI_len s.data.toList
  have tail : ∀ {A B : Prop}, ((pI s.data.toList).2.2.1 ≠ 0 → A) → ((pI s.data.toList).2.2.1 = 0 → B) → bcase (decide (((pI s.data.toList).2.2.1 : Int) > 0)) A B := fun {A B} hA hB => by
    refine bcase_iff.mpr ⟨fun q => hA (by have := of_decide_eq_true q; omega), fun q => hB (by have := of_decide_eq_false q; omega)⟩
  generalize hP : pI s.data.toList = P at *
  obtain ⟨pk, pt, pn, pe⟩ := P
  dsimp only at *
  refine tkE ⟨trivial, tkE ⟨trivial, bcase_iff.mpr ⟨fun q => ?_, fun q => ?_⟩⟩⟩
  · have q : ¬ Valid18 k xs := by
      have : vldB k xs = false := by simpa using q
      exact of_decide_eq_false this
    have ei : itB k xs = ⟨#[]⟩ := by unfold itB; rw [if_neg q]
    rw [ei, pick_no q]
    refine bF (by kernel_rfl) (bF (by kernel_rfl) ⟨hs, hs, tail (fun n0 => ?_) (fun n0 => ?_)⟩)
    · rw [posC_pos n0]
      exact tkE (tkE ⟨hl, bT (decide_eq_true ⟨rfl, rfl⟩) (bT (by simp) ⟨by simp, trivial⟩)⟩)
    · rw [n0]
      exact tkE (tkE ⟨hl, bT (decide_eq_true ⟨rfl, rfl⟩) (bT (by kernel_rfl) ⟨by simp, trivial⟩)⟩)
  · have q : Valid18 k xs := by
      have : vldB k xs = true := by simpa using q
      exact of_decide_eq_true this
    rw [pick_yes q]
    refine tkE ⟨decide_eq_true q, bF (it_self _) (bF (by kernel_rfl) ⟨hs, hs, tail (fun n0 => ?_) (fun n0 => ?_)⟩)⟩
    · rw [posC_pos n0]
      exact tkE (tkE ⟨hl, bT (decide_eq_true ⟨rfl, rfl⟩) (bT (by simp) ⟨by simp, trivial⟩)⟩)
    · rw [n0]
      exact tkE (tkE ⟨hl, bT (decide_eq_true ⟨rfl, rfl⟩) (bT (by kernel_rfl) ⟨by simp, trivial⟩)⟩)
theorem it_sl {k : Int} {xs : List (Int × Int)} (h : Valid18 k xs) : SL (itB k xs) := by
  unfold itB SL
  rw [if_pos h]
  have := insB_size h xs.length
  unfold insB at this
  rw [mkz, List.take_length] at this
  show (insT k xs).length ≤ 4000
  omega
theorem law_back (k : Int) (xs : List (Int × Int)) (s : ByteArray) : RAns Tryd.prog VT 4 [insA k xs, .one (.v (.string s))] [.one (.v (.bool true))] := by
  refine rfn_by st_vt s_Lw (vc_lawBack k xs s _ _ _ _ _ _ _ _ _) ?_
  refine ⟨trivial, bcase_iff.mpr ⟨fun _ => ⟨rfl, trivial⟩, fun q1 => bcase_iff.mpr ⟨fun _ => ⟨rfl, trivial⟩, fun q2 => ?_⟩⟩⟩
  have hs : SL s := sl_of (by have := of_decide_eq_false q2; omega)
  have back : ∀ {A B C : Prop}, (¬ Valid18 k xs → A) → (Valid18 k xs → SL (itB k xs) → pI (itB k xs).data.toList = (k, xs, 0, 0) → C) → bcase (pick (Valid18 k xs) 0 1 != 0) A C := fun {A B C} hA hC => by
    by_cases v : Valid18 k xs
    · rw [pick_yes v]
      refine bF (by kernel_rfl) (hC v (it_sl v) ?_)
      have e : (itB k xs).data.toList = insT k xs := by unfold itB; rw [if_pos v]
      rw [e]
      exact pI_text v
    · rw [pick_no v]
      exact bT (by kernel_rfl) (hA v)
  have hB := pI_back (l := s.data.toList) (k := (pI s.data.toList).1) (t := (pI s.data.toList).2.1) (n := (pI s.data.toList).2.2.1)
  refine ⟨hs, bcase_iff.mpr ⟨fun q => ?_, fun q => ?_⟩⟩
  · have q : (pI s.data.toList).2.2.2 = 0 := eq_of_beq q
    obtain ⟨b1, b2⟩ := hB (by rw [← q])
    generalize pI s.data.toList = P at *
    obtain ⟨pk, pt, pn, pe⟩ := P
    dsimp only at *
    have ei : itB pk pt = s := by
      unfold itB
      rw [if_pos b2, ← b1]
    refine tkE ⟨trivial, ?_⟩
    rw [pick_yes b2]
    refine bF (by kernel_rfl) ?_
    rw [ei]
    refine bF (it_self _) (tkE ⟨trivial, bF (by rw [show vldB pk pt = true from decide_eq_true b2]; rfl) (tkE ⟨trivial, back (B := True) (fun v => ?_) (fun v h1 h2 => ?_)⟩)⟩)
    · have ei : itB k xs = ⟨#[]⟩ := by unfold itB; rw [if_neg v]
      rw [ei]
      exact bT (by kernel_rfl) (tkE ⟨trivial, by rw [show vldB k xs = false from decide_eq_false v]; rfl, trivial⟩)
    · rw [h2]
      have hl : xs.length ≤ 1000000 := by have := v.2.2.1; omega
      exact ⟨h1, bT (by kernel_rfl) (bT (by kernel_rfl) (tkE (tkE ⟨hl, by rw [decide_eq_true ⟨rfl, rfl⟩], trivial⟩)))⟩
  · refine tkE ⟨trivial, back (B := True) (fun v => ?_) (fun v h1 h2 => ?_)⟩
    · have ei : itB k xs = ⟨#[]⟩ := by unfold itB; rw [if_neg v]
      rw [ei]
      exact bT (by kernel_rfl) (tkE ⟨trivial, by rw [show vldB k xs = false from decide_eq_false v]; rfl, trivial⟩)
    · rw [h2]
      have hl : xs.length ≤ 1000000 := by have := v.2.2.1; omega
      exact ⟨h1, bT (by kernel_rfl) (bT (by kernel_rfl) (tkE (tkE ⟨hl, by rw [decide_eq_true ⟨rfl, rfl⟩], trivial⟩)))⟩
end Go.Proofs.YtkcelhhhbbpbpaaDoor
