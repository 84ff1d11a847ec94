/- What the functions of angle over numbers and arcs answer. -/
import Derived.Test.YtbpeakgiajcfeaaDoorProg
import Derived.Test.YtbpeakgiajcfeaaDoorAbs
import Derived.Test.YtbpeakgiajcfeaaDoorBase
namespace Go.Proofs.YtbpeakgiajcfeaaDoor
open Go Go.Abs Go.RowKit

def Fit (n : Int) : Prop := -1099511627776 ≤ n ∧ n ≤ 1099511627776
instance (n : Int) : Decidable (Fit n) := by unfold Fit; infer_instance
def Val (a b : Int) : Prop := a ≤ b ∧ -1099511627776 ≤ a ∧ b ≤ 1099511627776
instance (a b : Int) : Decidable (Val a b) := by unfold Val; infer_instance
instance (n : Int) : Decidable (I64 n) := by unfold I64; infer_instance
abbrev arc (a b : Int) : Value := .agg ⟨[.int .i64 a, .int .i64 b]⟩
abbrev pair (a b : Value) : Value := .tuple ⟨[a, b]⟩
abbrev num (n : Int) : Value := .int .i64 n
def sFits : FSpec := fun | [.int .i64 n] => some (True, .bool (decide (Fit n))) | _ => none
def sVal : FSpec := fun | [.agg ⟨[.int .i64 a, .int .i64 b]⟩] => some (True, .bool (decide (Val a b))) | _ => none
def sWrap : FSpec := fun | [.int .i64 n] => some (True, num (n % 21600000)) | _ => none
def Den (d : Int) : Prop := 1 ≤ d ∧ d ≤ 9223372036854775807
def sFloor : FSpec := fun | [.int .i64 n, .int .i64 d] => some (I64 n ∧ Den d, num (n / d)) | _ => none
def pick (c : Prop) [Decidable c] (x y : Int) : Int := if c then x else y
def gate (c : Prop) [Decidable c] (x : Int) : Int := if c then x else 0
def Γ0 : List (FuncId × CSpec) := [(39, .v sFits), (37, .v sVal), (59, .v sWrap), (38, .v sFloor), (58, .v sFloor)]
end Go.Proofs.YtbpeakgiajcfeaaDoor
