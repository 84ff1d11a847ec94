/- The sine over an arc, by the program and by the reference: what they answer. -/
import Derived.Test.YtidhogcijghogaaGreatDoorTrhE
namespace Go.Proofs.YtidhogcijghogaaGreatDoor
open Go Go.Abs Go.RowKit Go.Sine
set_option linter.unusedVariables false
def Q41 (n : Int) : Prop := -2199023255552 ≤ n ∧ n ≤ 2199023255552
/-- An arc has an angle, but for whole turns. -/
def hasB (lo hi n : Int) : Bool := decide ((n - lo) % 21600000 ≤ hi - lo)
def encL (lo hi : Int) : Int := if hasB lo hi 16200000 then -1073741824 else min (loI lo) (loI hi)
def encH (lo hi : Int) : Int := if hasB lo hi 5400000 then 1073741824 else max (hiE lo) (hiE hi)
/-- A valid arc. -/
def ArcV (lo hi : Int) : Prop := -1099511627776 ≤ lo ∧ lo ≤ hi ∧ hi ≤ 1099511627776
instance (lo hi : Int) : Decidable (ArcV lo hi) := by unfold ArcV; infer_instance
def sEnds : FSpec := fun | [.int .i64 n] => some (Q41 n, pair (num (loI n)) (num (hiE n))) | _ => none
def sSinP : FSpec := fun | [.int .i64 n] => some (0 ≤ n ∧ n ≤ 5400000, pair (num (sinP n)) (.bool (exB n))) | _ => none
def sTurned : FSpec := fun | [.int .i64 n] => some (I64 n, num (mI n)) | _ => none
def sHas : FSpec := fun | [.agg ⟨[.int .i64 a, .int .i64 b]⟩, .int .i64 n] => some (Q41 a ∧ Q41 b ∧ Q41 n ∧ a ≤ b, .bool (hasB a b n)) | _ => none
def sEnc : FSpec := fun | [.agg ⟨[.int .i64 a, .int .i64 b]⟩] => some (Q41 a ∧ Q41 b ∧ a ≤ b, wid (encL a b) (encH a b)) | _ => none
def sFurther : FSpec := fun | [.agg ⟨[.int .i64 a, .int .i64 b]⟩] => some (Q41 a ∧ Q41 b, wid (a + 5400000) (b + 5400000)) | _ => none
def sArcV : FSpec := fun | [.agg ⟨[.int .i64 a, .int .i64 b]⟩] => some (True, .bool (decide (ArcV a b))) | _ => none
def ΓE1 : List (FuncId × CSpec) := [(84, .v sFloor6)]
def ΓE2 : List (FuncId × CSpec) := [(70, .v sEnds), (71, .v sHas)]
def ΓE3 : List (FuncId × CSpec) := [(56, .v sEnc)]
def ΓE4 : List (FuncId × CSpec) := [(78, .v sTurned), (79, .v sSinP)]
def ΓE5 : List (FuncId × CSpec) := [(60, .v sEnds), (61, .v sHas)]
def ΓE6 : List (FuncId × CSpec) := [(42, .v sArcV), (43, .v sEnc), (44, .v sFurther)]
end Go.Proofs.YtidhogcijghogaaGreatDoor
