/- The texts of angles, in plain words. -/
import Derived.Lib.Strings
import Derived.Lib.Repeat
import Derived.Lib.ItoaNum
namespace Go.Proofs.YtobmbbmompoliaaDoor
open Go
def padL (k n : Nat) : List UInt8 := Lib.repeatL [48] (k - (Lib.decDigits n).length) ++ Lib.decDigits n
/-- The text of an absolute value. -/
def coreL (m : Nat) : List UInt8 := Lib.decDigits (m / 60000) ++ [45] ++ padL 2 (m % 60000 / 1000) ++ [46] ++ (if m % 1000 % 100 = 0 then Lib.decDigits (m % 1000 / 100) else padL 3 (m % 1000))
end Go.Proofs.YtobmbbmompoliaaDoor
