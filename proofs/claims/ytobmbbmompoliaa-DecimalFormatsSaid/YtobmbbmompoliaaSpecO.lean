/- The contracts that rounding wants. -/
import Derived.Test.YtobmbbmompoliaaSpecM
namespace Go.Proofs.Ytobmbbmompoliaa
open Go Go.Abs Go.RowKit
def ΓR1 : List (FuncId × CSpec) := [(30, .v sRounded)]
def ΓNr : List (FuncId × CSpec) := [(7, .v sYes), (12, .v sRound)]
end Go.Proofs.Ytobmbbmompoliaa
