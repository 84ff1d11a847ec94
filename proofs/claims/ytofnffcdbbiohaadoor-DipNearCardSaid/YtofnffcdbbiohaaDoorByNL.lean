/- The law: a greater angle is nearer. -/
import Derived.Test.YtofnffcdbbiohaaDoorByNA
import Derived.Test.YtofnffcdbbiohaaDoorByN
namespace Go.Proofs.YtofnffcdbbiohaaDoor
open Go Go.Abs Go.RowKit
set_option linter.unusedVariables false
set_option linter.unusedSimpArgs false
theorem c_inside (a b c d : Int) : Ans Tryd.prog Tabs 6 [wid a b, wid c d] (.bool (decide (InsV a b c d))) := by
  refine fn_by Dp.st_tabs (Sound.cons (by kernel_rfl) (fun args p v h hp => by unfold sVal5 at h; split at h <;> cases h; exact h_val5 Dp.st_tabs _ _) Sound.nil) (vc_inside a b c d _) ?_
  refine ⟨trivial, bcase_iff.mpr ⟨fun p => ⟨trivial, bcase_iff.mpr ⟨fun q => bcase_iff.mpr ⟨fun r => ?_, fun r => ?_⟩, fun q => ?_⟩⟩, fun p => ?_⟩⟩
  · have p := of_decide_eq_true p; have q := of_decide_eq_true q; have r := of_decide_eq_true r
    exact congrArg Value.bool (decide_eq_decide.mpr ⟨fun s => ⟨p, q, r, s⟩, fun s => s.2.2.2⟩)
  · have r := of_decide_eq_false r
    exact congrArg Value.bool (decide_eq_false (fun s => r s.2.2.1)).symm
  · have q := of_decide_eq_false q
    exact congrArg Value.bool (decide_eq_false (fun s => q s.2.1)).symm
  · have p := of_decide_eq_false p
    exact congrArg Value.bool (decide_eq_false (fun s => p s.1)).symm
theorem s_Ln : Sound Tryd.prog Tabs ΓLn :=
  Sound.cons (by kernel_rfl) (fun args p v h _ => by unfold sYes5 at h; split at h <;> cases h; exact Dp.c_awake)
  (Sound.cons (by kernel_rfl) (fun args p v h _ => by unfold sBy at h; split at h <;> cases h; exact c_dby Dp.st_tabs _ _ _)
  (Sound.cons (by kernel_rfl) (fun args p v h _ => by unfold sIns at h; split at h <;> cases h; exact c_inside _ _ _ _)
  (Sound.cons (by kernel_rfl) (fun args p v h hp => by unfold sTrSin at h; split at h <;> cases h; exact h_sin Dp.st_tabs hp)
  (Sound.cons (by kernel_rfl) (fun args p v h hp => by unfold sTrCos at h; split at h <;> cases h; exact h_cos Dp.st_tabs hp) Sound.nil))))
theorem law_near {h l n w : Int} (hh : 0 ≤ h ∧ h ≤ 4294967295) (hl : 0 ≤ l ∧ l ≤ 4294967295) (hn : 0 ≤ n ∧ n ≤ 4294967295) (hw : 0 ≤ w ∧ w ≤ 4294967295) : Ans Tryd.prog Tabs 3 [.int .u32 h, .int .u32 l, .int .u32 n, .int .u32 w] (.bool true) := by
  refine fn_by Dp.st_tabs s_Ln (vc_near h l n w _) ?_
  rw [wrap_in (n := h) (by omega), wrap_in (n := l) (by omega), wrap_in (n := n) (by omega), wrap_in (n := w) (by omega), Int.tmod_eq_emod_of_nonneg (a := h) hh.1, Int.tmod_eq_emod_of_nonneg (a := n) hn.1, Int.tmod_eq_emod_of_nonneg (a := w) hw.1, Int.tmod_eq_emod_of_nonneg (a := l) hl.1, wrap_in (n := 1 + h % 1000000) (by omega), wrap_in (n := 1000 + n % 5399000) (by omega)]
  have b1 : 1 ≤ 1 + h % 1000000 ∧ 1 + h % 1000000 ≤ 1000000 := by omega
  have b2 : 1000 ≤ 1000 + n % 5399000 ∧ 1000 + n % 5399000 < 5400000 := by omega
  generalize 1 + h % 1000000 = H at *
  generalize 1000 + n % 5399000 = X at *
  have b3 : 0 ≤ l % H ∧ l % H < H := ⟨Int.emod_nonneg _ (by omega), Int.emod_lt_of_pos _ (by omega)⟩
  rw [wrap_in (n := 1 + l % H) (by omega), wrap_in (n := X + w % 100000) (by omega)]
  have b4 : X ≤ (if X + w % 100000 < 5400000 then X + w % 100000 else 5400000) ∧ (if X + w % 100000 < 5400000 then X + w % 100000 else 5400000) ≤ 5400000 := by split <;> omega
  generalize (if X + w % 100000 < 5400000 then X + w % 100000 else 5400000) = Y at *
  have b5 : 1 ≤ 1 + l % H ∧ 1 + l % H ≤ H := by omega
  generalize 1 + l % H = K0 at *
  clear b3 hh hl hn hw
  have nx : NearA H X X := ⟨b1.1, b1.2, b2.1, Int.le_refl _, by omega⟩
  have ny : NearA H X Y := ⟨b1.1, b1.2, b2.1, b4.1, b4.2⟩
  have nk : NearA K0 X X := ⟨b5.1, by omega, b2.1, Int.le_refl _, by omega⟩
  obtain ⟨x1, x2, x3, x4⟩ := by_bounds nx
  obtain ⟨y1, y2, y3, y4⟩ := by_bounds ny
  obtain ⟨k1, k2, k3, k4⟩ := by_bounds nk
  obtain ⟨l1, l2⟩ := by_less nx b5.1 b5.2
  obtain ⟨w1, w2⟩ := by_wider ny
  obtain ⟨t1, t2, t3, t4, t5, t6, t7, t8⟩ := by_tan nx
  rw [x1, y1, k1, show (H == 0) = false from beq_eq_false_iff_ne.mpr (by omega), bcase_false]
  refine ⟨trivial, trivial, trivial, trivial, ?_⟩
  rw [show ((0 : Int) != 0) = false from rfl, bcase_false, bcase_false, bcase_false, decide_eq_false (p := byL H X X < 0) (by omega), bcase_false, decide_eq_false (p := byL H X X > byH H X X) (by omega), bcase_false, decide_eq_false (p := byH H X X > 1073741824) (by omega), bcase_false, decide_eq_false (p := byL K0 X X > byL H X X) (by omega), bcase_false, decide_eq_false (p := byH K0 X X > byH H X X) (by omega), bcase_false]
  have ins : InsV (byL H X X) (byH H X X) (byL H X Y) (byH H X Y) := ⟨⟨by omega, x3, by omega⟩, ⟨by omega, y3, by omega⟩, w1, w2⟩
  have av : ArcV X X := ⟨by omega, Int.le_refl _, by omega⟩
  refine ⟨trivial, ?_⟩
  rw [decide_eq_true ins, show (!true) = false from rfl, bcase_false, decide_eq_false (p := byL H X Y > byL H X X) (by omega), bcase_false]
  refine ⟨av, av, ?_⟩
  rw [wrap_in (n := 1852 * byL H X X) (by omega), wrap_in (n := 1852 * byH H X X) (by omega), wrap_in (n := 10 * H) (by omega), wrap_in (n := 1852 * byL H X X * encL X X) (by omega), wrap_in (n := 1852 * byH H X X * encH X X) (by omega), wrap_in (n := 10 * H * cH X X) (by omega), wrap_in (n := 10 * H * cL X X) (by omega), decide_eq_true t3, bcase_true, decide_eq_true t6]
end Go.Proofs.YtofnffcdbbiohaaDoor
