/- Refraction: what the reference's search asks. -/
import Derived.Test.YtikbpleaaaeibaaGreatRfrS
namespace Go.Proofs.YtikbpleaaaeibaaGreat
open Go Go.Abs Go.RowKit
set_option linter.unusedVariables false
def TwoI (d : Int) : Prop := d = 2
def sFl2 : FSpec := fun | [.int .i64 n, .int .i64 d] => some (I64 n ∧ TwoI d, num (n / d)) | _ => none
def ΓRapR : List (FuncId × CSpec) := [(10, .v sVal5), (8, .v sWth), (30, .v sFl2), (31, .v sPoint)]
end Go.Proofs.YtikbpleaaaeibaaGreat
