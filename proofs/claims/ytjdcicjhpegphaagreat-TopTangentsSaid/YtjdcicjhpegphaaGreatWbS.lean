/- The examples that TopTangents looks at: what they answer. -/
import Derived.Test.YtjdcicjhpegphaaGreatWaC
namespace Go.Proofs.YtjdcicjhpegphaaGreat
open Go Go.Abs Go.RowKit Go.Sine
set_option linter.unusedVariables false
def P6 (l : List Int) : Prop := l = [0, 0, 0, 3600000]
def pLeg (X Y : Int) : PSpec := fun | [.agg ⟨[.int .i64 a, .int .i64 b]⟩, .agg ⟨[.int .i64 c, .int .i64 d]⟩], [.int .i64 z] => some (P6 [a, b, c, d] ∧ PbZ z, wid X Y) | _, _ => none
def ΓIn (X Y : Int) : List (FuncId × CSpec) := [(41, .v sPtV), (42, .p (pLeg X Y)), (43, .p (pLeg 3600000 3600000))]
/-- The longitudes around one that is nothing. -/
def arX : List (Int × Int) := [(0, 0)]
def rArd : RSpec := fun
  | [.one (.r 23 (.pair (.int .i64) (.int .i64)) xs)] => some (xs = arX, [.agg [.v (num 0), .v (num 0)]])
  | _ => none
def BvOk (a n : Int) : Prop := I64 (n - a)
def sBvd : FSpec := fun | [.agg ⟨[.int .i64 a, .int .i64 _]⟩, .int .i64 n] => some (BvOk a n, num (wrI (n - a))) | _ => none
def ΓAd : List (FuncId × CSpec) := [(129, .v sAllB), (150, .v sEvery), (160, .v sBvd)]
def AAd : FuncId → List (Nat × LoopBy) := fun _ => [(0, .times 5), (1, .times 5), (2, .times 5)]
def sInv (X Y : Int) : FSpec := fun | [.agg ⟨[.int .i64 a, .int .i64 b]⟩, .agg ⟨[.int .i64 c, .int .i64 d]⟩] => some (P6 [a, b, c, d], pair (arc4 X Y 3600000 3600000) (num 0)) | _ => none
def L6 (l : List Int) : Prop := l = [0, 0, 0, 0, 3600000, 3600000]
def sAl6 : FSpec := fun | [.agg ⟨[.int .i64 a, .int .i64 b, .int .i64 c, .int .i64 d, .int .i64 e, .int .i64 f]⟩] => some (L6 [a, b, c, d, e, f], fxOk 1800000 1800000) | _ => none
def AB0 (a b : Int) : Prop := a = 0 ∧ b = 0
def AB6 (a b : Int) : Prop := a = 0 ∧ b = 60000
def sCos6 : FSpec := fun | [.agg ⟨[.int .i64 a, .int .i64 b]⟩] => (bif decide (b = 0) then some (AB0 a b, fxOk 1073741824 1073741824) else some (AB6 a b, fxOk 1073578287 1073741824)) | _ => none
def sSin6 : FSpec := fun | [.agg ⟨[.int .i64 a, .int .i64 b]⟩] => some (AB0 a b, fxOk 0 0) | _ => none
def En0 (x n d : Int) : Prop := x = 0 ∧ n = 60000 ∧ d = 1073741824
def En1 (x n d : Int) : Prop := x = 1073741824 ∧ n = 60000 ∧ d = 1073741824
def sEnc6 : FSpec := fun | [.int .i64 x, .int .i64 n, .int .i64 d] => (bif decide (x = 0) then some (En0 x n d, trip 0 0 0) else some (En1 x n d, trip 60000 60000 0)) | _ => none
def QuP (a b c d n : Int) : Prop := FixV a b ∧ FixV c d ∧ 0 < c ∧ n = 0
def sQuo6 : FSpec := fun | [.agg ⟨[.int .i64 a, .int .i64 b]⟩, .agg ⟨[.int .i64 c, .int .i64 d]⟩, .int .i64 n] => some (QuP a b c d n, trip 0 0 0) | _ => none
def EdOk (i l : Int) : Prop := (0 ≤ i ∧ i ≤ 64) ∧ 0 ≤ l ∧ l ≤ 16
def edI (i l : Int) : Int := i * 10800000 / 2 ^ l.toNat
def sEdge : FSpec := fun | [.int .i64 i, .int .i64 l] => some (EdOk i l, num (edI i l)) | _ => none
def ΓWw (X Y : Int) : List (FuncId × CSpec) := [(15, .v (sInv X Y)), (24, .v sAl6), (10, .v sOne1), (85, .v sSin6), (94, .v sCos6), (91, .v sFxValid), (86, .v sFxBoth), (133, .v sFxFactor), (134, .v sEnc6), (104, .v sQuo6), (26, .v sAnValid), (63, .v sSgn), (58, .v sPlV), (129, .v sAllB), (150, .v sEvery), (160, .v sBvd), (159, .r rArd), (170, .v sEdge)]
end Go.Proofs.YtjdcicjhpegphaaGreat
