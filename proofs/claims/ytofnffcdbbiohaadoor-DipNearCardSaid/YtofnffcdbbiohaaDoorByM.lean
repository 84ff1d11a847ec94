/- The law of nearness: what its callees answer. -/
import Derived.Test.YtofnffcdbbiohaaDoorByS
namespace Go.Proofs.YtofnffcdbbiohaaDoor
open Go Go.Abs Go.RowKit
set_option linter.unusedVariables false
/-- An arc within another one. -/
def InsV (a b c d : Int) : Prop := ArcV a b ∧ ArcV c d ∧ c ≤ a ∧ b ≤ d
instance (a b c d : Int) : Decidable (InsV a b c d) := by unfold InsV; infer_instance
def sIns : FSpec := fun | [.agg ⟨[.int .i64 a, .int .i64 b]⟩, .agg ⟨[.int .i64 c, .int .i64 d]⟩] => some (True, .bool (decide (InsV a b c d))) | _ => none
def ΓLn : List (FuncId × CSpec) := [(4, .v sYes5), (5, .v sBy), (6, .v sIns), (7, .v sTrSin), (8, .v sTrCos)]
def ΓIns : List (FuncId × CSpec) := [(14, .v sVal5)]
end Go.Proofs.YtofnffcdbbiohaaDoor
