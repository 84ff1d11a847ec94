/- The tables that are laid, a pinned one among them: what the rows' condition gives. -/
import Derived.Test.YtkcelhhhbbpbpaaDoorTextA
import Derived.Test.YtkcelhhhbbpbpaaDoorRows
import Derived.Lib.LaidTab
import Derived.LaidMore
import Derived.Lay
import Derived.MakeChecks
import Derived.Stop.Joined
namespace Go.Proofs.YtkcelhhhbbpbpaaDoor
open Go Go.ChangeShapes Go.WideShapes Go.ChangeAt Go.RowKit
def laidP : List (String × DataW Unit) := [("math/bits.deBruijn32tab", Rows.laid_math_bits_deBruijn32tab), ("math/bits.deBruijn64tab", Rows.laid_math_bits_deBruijn64tab), ("internal/strconv.uint64pow10", Rows.laid_internal_strconv_uint64pow10), ("unicode/utf8.acceptRanges", Rows.laid_unicode_utf8_acceptRanges), ("unicode/utf8.first", Rows.laid_unicode_utf8_first)]
theorem gTabP : Tryd.prog.globalNamed "internal/strconv.uint64pow10" = some 1 := by kernel_rfl
theorem tTabP : (Tryd.prog.globals[1]?).map (·.type) = some 122 := by kernel_rfl
theorem metP (os : Os) (args : Array Value) : laidMetH Tryd.prog laidP ((World.laidAll Tryd.prog os laidP).forCall (fun _ _ => 0) ⟨#[], args, []⟩).memory := by
  rw [MakeChecks.laidMetH_plain _ _ _ (by kernel_rfl)]; exact laidMet_laidAll _ (by kernel_rfl) (by kernel_rfl)
theorem of_laidP {W : World} (h : laidMetH Tryd.prog laidP W) : Tabs W := by
  rw [MakeChecks.laidMetH_plain _ _ _ (by kernel_rfl)] at h
  obtain ⟨ps, ⟨g0, t0, cs0, f0, p0, q0, hg0, ht0, hv0, hd0, ⟨g1, t1, cs1, f1, p1, q1, hg1, ht1, hv1, hd1, ⟨g2, t2, cs2, f2, p2, q2, hg2, ht2, hv2, hd2, _, _⟩, _⟩, _⟩, _, _⟩ := h
  obtain rfl := Option.some.inj (gTabP.symm.trans hg2)
  obtain rfl := Option.some.inj (tTabP.symm.trans ht2)
  unfold Tabs Lib.TabIs
  rw [hv2, ← Lib.cells_of_tab (k := .u64) (zs := Lib.pow10Tab) Tryd.underlying122 Tryd.underlying110 (by kernel_rfl) (by kernel_rfl) hd2]
end Go.Proofs.YtkcelhhhbbpbpaaDoor
