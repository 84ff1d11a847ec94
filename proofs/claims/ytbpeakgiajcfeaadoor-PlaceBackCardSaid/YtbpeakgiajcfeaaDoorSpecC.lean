/- The lists of what is known for the laws of angle. -/
import Derived.Test.YtbpeakgiajcfeaaDoorSpecB
namespace Go.Proofs.YtbpeakgiajcfeaaDoor
open Go Go.Abs Go.RowKit
def Γ3 : List (FuncId × CSpec) := (40, .v sTextI) :: Γ0
end Go.Proofs.YtbpeakgiajcfeaaDoor
