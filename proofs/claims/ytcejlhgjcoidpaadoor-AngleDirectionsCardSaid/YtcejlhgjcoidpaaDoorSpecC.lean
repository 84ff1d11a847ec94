/- The lists of what is known for the laws of angle. -/
import Derived.Test.YtcejlhgjcoidpaaDoorSpecB
namespace Go.Proofs.YtcejlhgjcoidpaaDoor
open Go Go.Abs Go.RowKit
def Γ3 : List (FuncId × FSpec) := (23, sR5Agree) :: (51, sTextI) :: Γ2
def Γ4 : List (FuncId × FSpec) := (39, sText) :: (43, sPrint) :: Γ3
def sameB (x y e u v : Int) : Bool := if Val u v then e == 0 && (x == u && (y == v && true)) else e == 5 && (x == 0 && (y == 0 && true))
def sSame : FSpec := fun | [.agg ⟨[.int .i64 x, .int .i64 y]⟩, .int .i64 e, .agg ⟨[.int .i64 u, .int .i64 v]⟩] => some (True, .bool (sameB x y e u v)) | _ => none
def Γ5 : List (FuncId × FSpec) := (31, sSame) :: (11, sYes) :: Γ4
end Go.Proofs.YtcejlhgjcoidpaaDoor
