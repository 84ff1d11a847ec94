/- The tables that are laid, a pinned one among them. -/
import Derived.Test.YtobmbbmompoliaaDoorRows
import Derived.ProofKit
import Derived.ChangeOld
import Derived.OpenShut
import Derived.Lib.LaidTab
import Derived.LaidMore
import Derived.Lay
import Derived.MakeChecks
import Derived.Stop.Joined
namespace Go.Proofs.YtobmbbmompoliaaDoor
open Go Go.ChangeShapes Go.WideShapes Go.ChangeAt Go.RowKit
def laidP : List (String × DataW Unit) := [("unicode/utf8.acceptRanges", Rows.laid_unicode_utf8_acceptRanges), ("unicode/utf8.first", Rows.laid_unicode_utf8_first)]
theorem metP (os : Os) (args : Array Value) : laidMetH Tryd.prog laidP ((World.laidAll Tryd.prog os laidP).forCall (fun _ _ => 0) ⟨#[], args, []⟩).memory := by
  rw [MakeChecks.laidMetH_plain _ _ _ (by kernel_rfl)]; exact laidMet_laidAll _ (by kernel_rfl) (by kernel_rfl)
end Go.Proofs.YtobmbbmompoliaaDoor
