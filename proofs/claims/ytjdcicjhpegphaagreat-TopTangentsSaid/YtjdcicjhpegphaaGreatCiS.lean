/- Circles and lines of position: what the functions answer. -/
import Derived.Test.YtjdcicjhpegphaaGreatMrgH
namespace Go.Proofs.YtjdcicjhpegphaaGreat
open Go Go.Abs Go.RowKit Go.Sine
set_option linter.unusedVariables false
abbrev geo8 (g g' d d' s s' p p' : Int) : Value := .agg ⟨[.int .i64 g, .int .i64 g', .int .i64 d, .int .i64 d', .int .i64 s, .int .i64 s', .int .i64 p, .int .i64 p']⟩
abbrev cir6 (a b c d e f : Int) : Value := tri6 a b c d e f
/-- A valid circle: latitudes, longitudes, radius. -/
def CirV (a b c d e f : Int) : Prop := LatV a b ∧ LonP c d ∧ ArcV e f ∧ 0 ≤ e ∧ f ≤ 10800000
instance (a b c d e f : Int) : Decidable (CirV a b c d e f) := by unfold CirV; infer_instance
/-- What Of is asked: altitude, hour angle, declination. -/
def OfV (o o' g g' d d' : Int) : Prop := ArcV o o' ∧ ArcV g g' ∧ LatV d d'
instance (o o' g g' d d' : Int) : Decidable (OfV o o' g g' d d') := by unfold OfV; infer_instance
def OfR (o o' : Int) : Prop := -5400000 ≤ o ∧ o' ≤ 5400000
instance (o o' : Int) : Decidable (OfR o o') := by unfold OfR; infer_instance
/-- A line: a point, an azimuth, an intercept. -/
abbrev lin6 (p q z z' i i' : Int) : Value := tri6 p q z z' i i'
def LinV (p q z z' i i' : Int) : Prop := NearV p q ∧ (ArcV z z' ∧ 0 ≤ z ∧ z < 21600000 ∧ IntKind.i64.wrap (z' - z) < 10800000) ∧ ArcV i i' ∧ -600000 ≤ i ∧ i' ≤ 600000
instance (p q z z' i i' : Int) : Decidable (LinV p q z z' i i') := by unfold LinV; infer_instance
def sLatB : FSpec := fun | [.agg ⟨[.int .i64 a, .int .i64 b]⟩] => some (True, .bool (decide (LatV a b))) | _ => none
def ΓCo : List (FuncId × CSpec) := [(26, .v sAnValid), (27, .v sLatB), (28, .v sLongi), (58, .v sPlV)]
def ΓLv : List (FuncId × CSpec) := [(26, .v sAnValid), (36, .v sNearV)]
def sLiSub : FSpec := fun | [.agg ⟨[.int .i64 a, .int .i64 b]⟩, .agg ⟨[.int .i64 c, .int .i64 d]⟩] => some (True, wid (IntKind.i64.wrap (a - d)) (IntKind.i64.wrap (b - c))) | _ => none
def ΓLo : List (FuncId × CSpec) := [(26, .v sAnValid), (36, .v sNearV), (37, .v sLatB), (38, .v sAnTurn), (39, .v sLiSub)]
def sCirV : FSpec := fun | [.agg ⟨[.int .i64 a, .int .i64 b, .int .i64 c, .int .i64 d, .int .i64 e, .int .i64 f]⟩] => some (True, .bool (decide (CirV a b c d e f))) | _ => none
def sTrgl : FSpec := fun | [.agg ⟨[.int .i64 a, .int .i64 b, .int .i64 c, .int .i64 d, .int .i64 e, .int .i64 f]⟩, .agg ⟨[.int .i64 p, .int .i64 p', .int .i64 q, .int .i64 q']⟩] => some (True, tri6 p p' a b (IntKind.i64.wrap (q - d)) (IntKind.i64.wrap (q' - c))) | _ => none
def sSolve (f g z u : Int → Int → Int → Int → Int → Int → Int) : FSpec := fun | [.agg ⟨[.int .i64 l, .int .i64 l', .int .i64 d, .int .i64 d', .int .i64 h, .int .i64 h']⟩] => some (TrV l l' d d' h h', pair (arc4 (f l l' d d' h h') (g l l' d d' h h') (z l l' d d' h h') (u l l' d d' h h')) (num 0)) | _ => none
def sRight : FSpec := fun | [] => some (True, wid 5400000 5400000) | _ => none
def ZS (z a b c d : Int) : Prop := z = 0 ∧ SbOk a b c d
def pLs : PSpec := fun | [.agg ⟨[.int .i64 a, .int .i64 b]⟩, .agg ⟨[.int .i64 c, .int .i64 d]⟩], [.int .i64 z] => some (ZS z a b c d, wid (a - d) (b - c)) | _, _ => none
def ΓCx (f g z u : Int → Int → Int → Int → Int → Int → Int) : List (FuncId × CSpec) := [(30, .v sPlOf), (31, .v sCirV), (32, .v sTrgl), (9, .v (sSolve f g z u)), (34, .v sRight), (33, .p pLs)]
end Go.Proofs.YtjdcicjhpegphaaGreat
