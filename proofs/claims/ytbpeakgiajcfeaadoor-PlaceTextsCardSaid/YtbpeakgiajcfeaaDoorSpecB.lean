/- What the functions of angle over texts answer, and the lists of what is known for the laws. -/
import Derived.Test.YtbpeakgiajcfeaaDoorSpecA
import Derived.Test.YtbpeakgiajcfeaaDoorTextD
namespace Go.Proofs.YtbpeakgiajcfeaaDoor
open Go Go.Abs Go.RowKit

def textL (n : Int) : List UInt8 := if n < 0 then 45 :: coreL n.natAbs else coreL n.natAbs
def textB (n : Int) : ByteArray := ⟨(textL n).toArray⟩
def rnd (n : Int) : Int := (n + 50) / 100 * 100
def sTextI : FSpec := fun | [.int .i64 n] => some (Fit n, .string (textB n)) | _ => none
def okText (n : Int) : ByteArray := if Fit n then textB n else ⟨#[]⟩
def sText : FSpec := fun | [.int .i64 n] => some (True, pair (.string (okText n)) (num (pick (Fit n) 0 5))) | _ => none
def printL (a b : Int) : List UInt8 := if rnd a = rnd b then textL (rnd a) else textL (rnd a) ++ [32, 46, 46, 32] ++ textL (rnd b)
def prints (a b : Int) : Prop := Val a b ∧ Fit (rnd a) ∧ Fit (rnd b)
instance (a b : Int) : Decidable (prints a b) := by unfold prints; infer_instance
def printB (a b : Int) : ByteArray := ⟨(if prints a b then printL a b else []).toArray⟩
def sPrint : FSpec := fun | [.agg ⟨[.int .i64 a, .int .i64 b]⟩] => some (True, pair (.string (printB a b)) (num (pick (Val a b) (pick (Fit (rnd a) ∧ Fit (rnd b)) 0 5) 1))) | _ => none
def sYes : FSpec := fun | [] => some (True, .bool true) | _ => none
end Go.Proofs.YtbpeakgiajcfeaaDoor
