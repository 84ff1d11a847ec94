/- The law of printed angles. -/
import Derived.Test.YtcejlhgjcoidpaaDoorPrV
import Derived.Test.YtcejlhgjcoidpaaDoorPlP
namespace Go.Proofs.YtcejlhgjcoidpaaDoor
open Go Go.Abs Go.RowKit
set_option linter.unusedVariables false
set_option linter.unusedSimpArgs false
theorem bF {c : Bool} {A B : Prop} (h : c = false) (hb : B) : bcase c A B := by rw [h, bcase_false]; exact hb
theorem bT {c : Bool} {A B : Prop} (h : c = true) (hb : A) : bcase c A B := by rw [h, bcase_true]; exact hb
theorem fin_p {a b : Int} {x y : ByteArray} {F : Prop} (h : Val a b) (fa : Fit (rnd a)) (fb : Fit (rnd b)) (vx : parV x = rnd a) (ex : parE x = 0) (vy : parV y = rnd b) (ey : parE y = 0) :
    bcase (parE x != 0) F (bcase (parE y != 0) F (bcase (decide (parV x < -1099511627776)) F (bcase (decide (parV y > 1099511627776)) F (bcase ((parV x).tmod 100 == 0) (bcase ((parV y).tmod 100 == 0)
      (bcase (decide (IntKind.i64.wrap (a - parV x) ≥ -50)) (bcase (decide (IntKind.i64.wrap (a - parV x) < 50)) (bcase (decide (IntKind.i64.wrap (b - parV y) ≥ -50)) (Value.bool (decide (IntKind.i64.wrap (b - parV y) < 50)) = Value.bool true) F) F) F) F) F)))) := by
  obtain ⟨h1, h2, h3⟩ := h
  unfold Fit at fa fb
  rw [ex, ey, vx, vy]
  have ra : (rnd a).tmod 100 = 0 := by unfold rnd; exact Int.mul_tmod_left _ _
  have rb : (rnd b).tmod 100 = 0 := by unfold rnd; exact Int.mul_tmod_left _ _
  rw [ra, rb]
  have da : -50 ≤ a - rnd a ∧ a - rnd a < 50 := by unfold rnd; omega
  have db : -50 ≤ b - rnd b ∧ b - rnd b < 50 := by unfold rnd; omega
  rw [wrap_in (n := a - rnd a) (by omega), wrap_in (n := b - rnd b) (by omega)]
  refine bF rfl (bF rfl (bF (decide_eq_false (by omega)) (bF (decide_eq_false (by omega)) (bT rfl (bT rfl (bT (decide_eq_true (by omega)) (bT (decide_eq_true (by omega)) (bT (decide_eq_true (by omega)) ?_))))))))
  rw [decide_eq_true db.2]
theorem text_bytes {n : Int} : 32 ∉ (textB n).data.toList := by
  show 32 ∉ textL n
  unfold textL
  intro h
  have c := core_bytes n.natAbs 32
  split at h
  · rcases List.mem_cons.mp h with h | h
    · revert h; decide
    · have := c h; revert this; decide
  · have := c h; revert this; decide
theorem law_prints (a b : Int) : Ans Tryd.prog VT 10 [arc a b] (.bool true) := by
  refine fn_by st_vt (Sound.cons (by kernel_rfl) (fun args p v h _ => by unfold sYes at h; split at h <;> cases h; exact up_vt c_awake)
    (Sound.cons (by kernel_rfl) (fun args p v h _ => by split at h <;> cases h; exact up_vt (c_print _ _))
    (Sound.cons (by kernel_rfl) (fun args p v h hp => by split at h <;> cases h; exact c_r5print st_vt _ _ hp)
    (Sound.rcons (by kernel_rfl) (fun ads p rds h hp => by split at h <;> cases h; exact r_split (fun _ h => h.1) _ _ (by have := hp.1; omega) hp.2)
    (Sound.cons (by kernel_rfl) (fun args p v h hp => by unfold sPar at h; split at h <;> cases h; exact c_parse5 st_vt (fun _ h => h.1) _ hp) Sound.nil)))))
    (vc_lawPrints a b splB printB (fun a b => pick (Val a b) (pick (Fit (rnd a) ∧ Fit (rnd b)) 0 5) 1) (fun a b => pick (Fit (rnd a) ∧ Fit (rnd b)) 0 5) parV parE _) ?_
  refine ⟨trivial, trivial, ?_⟩
  by_cases h : Val a b
  · obtain ⟨h1, h2, h3⟩ := id h
    refine bT (decide_eq_true h1) (bT (decide_eq_true h2) (bF (by rw [decide_eq_true h3]; rfl) ⟨h, bF (by rw [beq_self_eq_true]; rfl) (bF (by show (pick (Val a b) _ 1 != _) = false; rw [pick_yes h]; simp) ?_)⟩))
    show bcase (pick (Val a b) (pick (Fit (rnd a) ∧ Fit (rnd b)) 0 5) 1 != 0) _ _
    rw [pick_yes h]
    by_cases f : Fit (rnd a) ∧ Fit (rnd b)
    · obtain ⟨fa, fb⟩ := id f
      rw [pick_yes f]
      refine bF rfl ?_
      have pr : prints a b := ⟨h, fa, fb⟩
      have ta := text_sl fa
      have tb := text_sl fb
      obtain ⟨va, ea⟩ := text_back fa
      obtain ⟨vb, eb⟩ := text_back fb
      by_cases e : rnd a = rnd b
      · have hp : printB a b = textB (rnd a) := by unfold printB; rw [if_pos pr]; unfold printL; rw [if_pos e]; rfl
        have hs : splB (printB a b) (ByteArray.mk #[32, 46, 46, 32]) = [textB (rnd a)] := by rw [hp]; exact spl_one (t := [46, 46, 32]) _ text_bytes
        have hsz : (printB a b).size ≤ 4000 := by rw [hp, Lib.size_eq]; exact ta
        rw [hs]
        refine ⟨⟨hsz, by decide⟩, bF (by kernel_rfl) (bF (by kernel_rfl) (bT (by kernel_rfl) (bT (by kernel_rfl) ⟨ta, bT (by kernel_rfl) (bT (by kernel_rfl) ⟨ta, ?_⟩)⟩)))⟩
        exact fin_p h fa fb va ea (va.trans e) ea
      · have hp : printB a b = textB (rnd a) ++ ByteArray.mk #[32, 46, 46, 32] ++ textB (rnd b) := by
          unfold printB; rw [if_pos pr]; unfold printL textB; rw [if_neg e, show (ByteArray.mk #[32, 46, 46, 32]) = ⟨[32, 46, 46, 32].toArray⟩ from rfl, bytes_app, bytes_app]
        have hs : splB (printB a b) (ByteArray.mk #[32, 46, 46, 32]) = [textB (rnd a), textB (rnd b)] := by rw [hp]; exact spl_two (t := [46, 46, 32]) _ _ text_bytes text_bytes
        have hsz : (printB a b).size ≤ 4000 := by
          have la : (textL (rnd a)).length ≤ 31 := by
            unfold textL; have := core_short (rnd a).natAbs (by unfold Fit at fa; omega); split
            · rw [List.length_cons]; omega
            · omega
          have lb : (textL (rnd b)).length ≤ 31 := by
            unfold textL; have := core_short (rnd b).natAbs (by unfold Fit at fb; omega); split
            · rw [List.length_cons]; omega
            · omega
          have la' : (textB (rnd a)).size ≤ 31 := by rw [Lib.size_eq]; exact la
          have lb' : (textB (rnd b)).size ≤ 31 := by rw [Lib.size_eq]; exact lb
          rw [hp, ByteArray.size_append, ByteArray.size_append, sp_size]; omega
        rw [hs]
        refine ⟨⟨hsz, by decide⟩, bF (by kernel_rfl) (bF (by kernel_rfl) (bT (by kernel_rfl) (bT (by kernel_rfl) ⟨ta, bT (by kernel_rfl) (bT (by kernel_rfl) ⟨?_, ?_⟩)⟩)))⟩
        · exact tb
        · exact fin_p h fa fb va ea vb eb
    · rw [pick_no f]
      exact bT rfl rfl
  · have e0 : ((printB a b).toList == []) = true := by
      have : printB a b = ⟨#[]⟩ := by unfold printB; rw [if_neg (fun e => h e.1)]
      rw [this, ByteArray.toList_eq]; rfl
    have e1 : (pick (Val a b) (pick (Fit (rnd a) ∧ Fit (rnd b)) 0 5) 1 == 1) = true := by rw [pick_no h]; rfl
    refine bcase_iff.mpr ⟨fun q => bcase_iff.mpr ⟨fun q2 => bcase_iff.mpr ⟨fun _ => bT e0 ?_, fun q3 => ?_⟩, fun _ => bT e0 ?_⟩, fun _ => bT e0 ?_⟩
    · exact congrArg Value.bool e1
    · have := of_decide_eq_true q
      have := of_decide_eq_true q2
      have q3 : decide (b ≤ 1099511627776) = true := by simpa using q3
      exact absurd ⟨by assumption, by assumption, of_decide_eq_true q3⟩ h
    · exact congrArg Value.bool e1
    · exact congrArg Value.bool e1
end Go.Proofs.YtcejlhgjcoidpaaDoor
