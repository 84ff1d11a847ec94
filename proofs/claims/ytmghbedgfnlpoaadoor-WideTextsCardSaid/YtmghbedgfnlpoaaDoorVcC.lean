/- What the comparison asks. -/
import Derived.Test.YtmghbedgfnlpoaaDoorSpecW
namespace Go.Proofs.YtmghbedgfnlpoaaDoor
open Go Go.Abs Go.RowKit
set_option linter.unusedVariables false
set_option linter.unusedSimpArgs false
end Go.Proofs.YtmghbedgfnlpoaaDoor
