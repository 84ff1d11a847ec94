/- The reference's quick sine and its floor: what they ask. -/
import Derived.Test.YtikbpleaaaeibaaTrhS
namespace Go.Proofs.Ytikbpleaaaeibaa
open Go Go.Abs Go.RowKit Go.Sine
set_option linter.unusedVariables false
set_option linter.unusedSimpArgs false
end Go.Proofs.Ytikbpleaaaeibaa
