/- The reference's signed numbers: what its functions return. -/
import Derived.Test.YtmghbedgfnlpoaaDoorSpecR
namespace Go.Proofs.YtmghbedgfnlpoaaDoor
open Go Go.Abs Go.RowKit
set_option linter.unusedVariables false
set_option linter.unusedSimpArgs false
/-- The value of digits with a sign. -/
def numV (l : List Int) (s : Bool) : Int := if s then -(nv l : Int) else nv l
/-- A number whose zero is not negative, not too long. -/
def CanN (l : List Int) (s : Bool) : Prop := Can l ∧ l.length ≤ 40 ∧ (s = true → nv l ≠ 0)
/-- Not too great a product. -/
def PrOk (l m : List Int) : Prop := nv l * nv m < 268435456 ^ 40
def sSign : RSpec := fun | [.agg [.r 3 (.int .i64) l, .v (.bool s)]] => some (Can l, [.agg [.same 0, .v (.bool (!decide ((l.length : Int) = 0) && s))]]) | _ => none
def sPlus : RSpec := fun | [.agg [.r 3 (.int .i64) l, .v (.bool s)], .agg [.r 3 (.int .i64) m, .v (.bool t)]] => some (CanN l s ∧ CanN m t, [numR (numV l s + numV m t)]) | _ => none
def sMul : RSpec := fun | [.agg [.r 3 (.int .i64) l, .v (.bool s)], .agg [.r 3 (.int .i64) m, .v (.bool t)]] => some (CanN l s ∧ CanN m t ∧ PrOk l m, [numR (numV l s * numV m t)]) | _ => none
def ΓPl : List (FuncId × CSpec) := [(57, .r sSum), (43, .r sLess), (41, .r sOrder), (58, .r sSign), (42, .r sTimes)]
end Go.Proofs.YtmghbedgfnlpoaaDoor
