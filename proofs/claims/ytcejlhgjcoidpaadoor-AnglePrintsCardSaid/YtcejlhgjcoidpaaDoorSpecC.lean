/- The lists of what is known for the laws of angle. -/
import Derived.Test.YtcejlhgjcoidpaaDoorSpecB
namespace Go.Proofs.YtcejlhgjcoidpaaDoor
open Go Go.Abs Go.RowKit
def Γ3 : List (FuncId × CSpec) := (23, .v sR5Agree) :: (51, .v sTextI) :: Γ2
def Γ4 : List (FuncId × CSpec) := (39, .v sText) :: (43, .v sPrint) :: Γ3
def sameB (x y e u v : Int) : Bool := if Val u v then e == 0 && (x == u && (y == v && true)) else e == 5 && (x == 0 && (y == 0 && true))
def sSame : FSpec := fun | [.agg ⟨[.int .i64 x, .int .i64 y]⟩, .int .i64 e, .agg ⟨[.int .i64 u, .int .i64 v]⟩] => some (True, .bool (sameB x y e u v)) | _ => none
def Γ5 : List (FuncId × CSpec) := (31, .v sSame) :: (11, .v sYes) :: Γ4
end Go.Proofs.YtcejlhgjcoidpaaDoor
