/- The examples that TopTangents looks at: the run of a leg. -/
import Derived.Test.YtjdcicjhpegphaaGreatWdS
namespace Go.Proofs.YtjdcicjhpegphaaGreat
open Go Go.Abs Go.RowKit Go.Sine
set_option linter.unusedVariables false
def Pl4 (l : List Int) : Prop := l = [0, 0, 60000, 60000]
def sPla : FSpec := fun | [.agg ⟨[.int .i64 a, .int .i64 b, .int .i64 c, .int .i64 d]⟩] => some (Pl4 [a, b, c, d], .tuple ⟨[.agg ⟨[num 60000, num 60000]⟩, .agg ⟨[num 0, num 0]⟩, num 0]⟩) | _ => none
def Dl4 (l : List Int) : Prop := l = [0, 60000, 0, 0]
def sDlo : FSpec := fun | [.agg ⟨[.int .i64 a, .int .i64 b]⟩, .agg ⟨[.int .i64 c, .int .i64 d]⟩] => some (Dl4 [a, b, c, d], fxOk 0 0) | _ => none
def ΓRu4 : List (FuncId × CSpec) := [(100, .v sPla), (61, .v sDlo), (26, .v sAnValid), (63, .v sSgn), (58, .v sPlV)]
end Go.Proofs.YtjdcicjhpegphaaGreat
