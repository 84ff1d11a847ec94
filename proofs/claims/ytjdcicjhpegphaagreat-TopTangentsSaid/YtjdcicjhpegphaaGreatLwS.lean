/- TopTangents: what the law calls. -/
import Derived.Test.YtjdcicjhpegphaaGreatCiC
namespace Go.Proofs.YtjdcicjhpegphaaGreat
open Go Go.Abs Go.RowKit Go.Sine
set_option linter.unusedVariables false
def sWayAw : FSpec := fun | [] => some (True, .bool true) | _ => none
/-- What Of answers, under names of its own. -/
structure OfIs (o o' g g' d d' a b c e r s x : Int) : Prop where
  ea : a = ofC o o' g g' d d' d
  eb : b = ofC o o' g g' d d' d'
  ec : c = ofC o o' g g' d d' (cLo g g')
  ed : e = ofC o o' g g' d d' (cHi g g')
  er : r = ofC o o' g g' d d' (5400000 - o')
  es : s = ofC o o' g g' d d' (5400000 - o)
  ex : x = ofE o o' g g' d d'
def qOf : QSpec := fun | [.agg ⟨[.int .i64 o, .int .i64 o']⟩, .agg ⟨[.int .i64 g, .int .i64 g', .int .i64 d, .int .i64 d', .int .i64 _, .int .i64 _, .int .i64 _, .int .i64 _]⟩] => some (True, fun K => ∀ a b c e r s x, OfIs o o' g g' d d' a b c e r s x → K (pair (cir6 a b c e r s) (num x))) | _ => none
def sTang : FSpec := fun | [.agg ⟨[.int .i64 a, .int .i64 b, .int .i64 c, .int .i64 d, .int .i64 e, .int .i64 f]⟩, .agg ⟨[.int .i64 p, .int .i64 q]⟩] => some (TgOk a b c d e f p q, tgAns a b c d e f p q) | _ => none
def sWayAt : FSpec := fun | [.int .i64 n] => some (True, wid n n) | _ => none
structure LoIs (h h' z z' o o' p q a b c d i j x : Int) : Prop where
  ea : a = loX h h' z z' o o' p
  eb : b = loX h h' z z' o o' q
  ec : c = loX h h' z z' o o' (tuL z z')
  ed : d = loX h h' z z' o o' (tuH z z')
  ei : i = loX h h' z z' o o' (o - h')
  ej : j = loX h h' z z' o o' (o' - h)
  ex : x = loE h h' z z' o o'
def qLo : QSpec := fun | [.agg ⟨[.int .i64 p, .int .i64 q]⟩, .agg ⟨[.int .i64 h, .int .i64 h', .int .i64 z, .int .i64 z']⟩, .agg ⟨[.int .i64 o, .int .i64 o']⟩] => some (LoOk p q h h' z z' o o', fun K => ∀ a b c d i j x, LoIs h h' z z' o o' p q a b c d i j x → K (pair (lin6 a b c d i j) (num x))) | _ => none
def sLinV : FSpec := fun | [.agg ⟨[.int .i64 p, .int .i64 q, .int .i64 z, .int .i64 z', .int .i64 i, .int .i64 i']⟩] => some (True, .bool (decide (LinV p q z z' i i'))) | _ => none
def ΓTt : List (FuncId × CSpec) := [(5, .v sWayAw), (6, .q qOf), (7, .v sNearV), (8, .v sTang), (10, .v sWayAt), (11, .v sLiSub), (9, .v (sSolve hL hH zL zH)), (12, .q qLo), (13, .v sLinV)]
end Go.Proofs.YtjdcicjhpegphaaGreat
