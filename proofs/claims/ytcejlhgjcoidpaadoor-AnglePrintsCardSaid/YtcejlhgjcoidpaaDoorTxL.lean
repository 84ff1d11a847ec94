/- The law of texts of angles. -/
import Derived.Test.YtcejlhgjcoidpaaDoorTxC
namespace Go.Proofs.YtcejlhgjcoidpaaDoor
open Go Go.Abs Go.RowKit
set_option linter.unusedVariables false
set_option linter.unusedSimpArgs false
/-- What is asked of a world: the library's variable holds some int; the table of powers is laid. -/
def VT (w : World) : Prop := Vs w ∧ Tabs w
theorem st_vt : ∀ w w', VT w → Below w.heap.size w w' → VT w' := fun w w' h hb => ⟨st_vs w w' h.1 hb, st_tabs w w' h.2 hb⟩
theorem up_vt {f : FuncId} {a : List Value} {v : Value} (h : Ans Tryd.prog Tabs f a v) : Ans Tryd.prog VT f a v := fun w hw => h w hw.2
theorem core_short (m : Nat) (h : m ≤ 1099511627776) : (coreL m).length ≤ 30 := by
  unfold coreL
  rw [← digL_one, ← digL_one, ← digL_pad 2 _ (by omega), ← digL_pad 3 _ (by omega)]
  have h1 := digL_len 8 (m / 60000) 1 (by omega)
  have h2 := digL_len 2 (m % 60000 / 1000) 2 (by omega)
  have h3 := digL_len 1 (m % 1000 / 100) 1 (by omega)
  have h4 := digL_len 3 (m % 1000) 3 (by omega)
  simp only [List.length_append, List.length_cons, List.length_nil]
  split <;> omega
theorem text_sl {n : Int} (h : Fit n) : SL (textB n) := by
  unfold Fit at h
  have := core_short n.natAbs (by omega)
  show (textL n).length ≤ 4000
  unfold textL
  split
  · rw [List.length_cons]; omega
  · omega
theorem text_back {n : Int} (h : Fit n) : parV (textB n) = n ∧ parE (textB n) = 0 := by
  unfold Fit at h
  have b := par_back n (by omega)
  have e : (textB n).data.toList = (if n < 0 then [45] else []) ++ coreL n.natAbs := by
    show textL n = _
    unfold textL
    split <;> rfl
  unfold parV parE
  rw [e, b]
  exact ⟨rfl, rfl⟩
theorem law_texts (n : Int) (s : ByteArray) : Ans Tryd.prog VT 9 [num n, .string s] (.bool true) := by
  refine fn_by st_vt (Sound.cons (by kernel_rfl) (fun args p v h _ => by unfold sYes at h; split at h <;> cases h; exact up_vt c_awake)
    (Sound.cons (by kernel_rfl) (fun args p v h _ => by split at h <;> cases h; exact up_vt (c_text _))
    (Sound.cons (by kernel_rfl) (fun args p v h hp => by unfold sPar at h; split at h <;> cases h; exact c_parse5 st_vt (fun _ h => h.1) _ hp)
    (Sound.cons (by kernel_rfl) (fun args p v h hp => by unfold sPar at h; split at h <;> cases h; exact c_r5parse st_vt _ hp)
    (Sound.cons (by kernel_rfl) (fun args p v h hp => by split at h <;> cases h; exact c_r5text st_vt _ hp) Sound.nil))))) (vc_lawTexts n s parV parE okText textB _) ?_
  refine ⟨trivial, trivial, ?_⟩
  have fin : bcase (decide ((s.size : Int) > 100)) (Value.bool true = Value.bool true) (SL s ∧ SL s ∧ bcase (parV s == parV s) (Value.bool (parE s == parE s) = Value.bool true) (Value.bool false = Value.bool true)) := by
    refine bcase_iff.mpr ⟨fun _ => rfl, fun q => ?_⟩
    have q := of_decide_eq_false q
    have sz := Lib.size_eq s
    have : SL s := by show s.data.toList.length ≤ 4000; omega
    rw [beq_self_eq_true, beq_self_eq_true, bcase_true]
    exact ⟨this, this, rfl⟩
  by_cases f : Fit n
  · have f' := f
    unfold Fit at f'
    obtain ⟨b1, b2⟩ := text_back f
    have eo : okText n = textB n := by unfold okText; rw [if_pos f]
    rw [decide_eq_false (by omega), bcase_false, decide_eq_false (by omega), bcase_false, eo, b1, b2, pick_yes f, beq_self_eq_true]
    refine ⟨text_sl f, ?_⟩
    rw [show ((0 : Int) != 0) = false from rfl, bcase_false, show (n != n) = false by simp]
    exact ⟨f, fin⟩
  · have eo : okText n = ⟨#[]⟩ := by unfold okText; rw [if_neg f]
    have e0 : ((ByteArray.mk #[]).toList == []) = true := by rw [ByteArray.toList_eq]; rfl
    unfold Fit at f
    have hp : pick (Fit n) 0 5 = 5 := pick_no f
    rw [eo, hp, e0]
    refine bcase_iff.mpr ⟨fun q => fin, fun q => bcase_iff.mpr ⟨fun q => fin, fun q2 => ?_⟩⟩
    have q := of_decide_eq_false q
    have q2 := of_decide_eq_false q2
    exact absurd (show -1099511627776 ≤ n ∧ n ≤ 1099511627776 by omega) f
end Go.Proofs.YtcejlhgjcoidpaaDoor
