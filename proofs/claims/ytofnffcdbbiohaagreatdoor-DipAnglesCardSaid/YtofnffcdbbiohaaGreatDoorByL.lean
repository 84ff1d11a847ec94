/- The law: ByAngle returns what is specified. -/
import Derived.Test.YtofnffcdbbiohaaGreatDoorByC
import Derived.Test.YtofnffcdbbiohaaGreatDoorByW
namespace Go.Proofs.YtofnffcdbbiohaaGreatDoor
open Go Go.Abs Go.RowKit
set_option linter.unusedVariables false
set_option linter.unusedSimpArgs false
theorem s_La : Sound Tryz.prog Tabs ΓLa :=
  Sound.cons (by kernel_rfl) (fun args p v h _ => by unfold sYes5 at h; split at h <;> cases h; exact Dp.c_awake)
  (Sound.cons (by kernel_rfl) (fun args p v h _ => by unfold sBy at h; split at h <;> cases h; exact c_dby Dp.st_tabs _ _ _)
  (Sound.cons (by kernel_rfl) (fun args p v h _ => by unfold sBy at h; split at h <;> cases h; exact c_r19by Dp.st_tabs _ _ _) Sound.nil))
theorem law_angles (h a b : Int) : Ans Tryz.prog Tabs 3 [num h, wid a b] (.bool true) := by
  refine fn_by Dp.st_tabs s_La (vc_angles h a b _) ?_
  simp [bcase_iff]
end Go.Proofs.YtofnffcdbbiohaaGreatDoor
