/- Circles and lines of position: what the functions ask. -/
import Derived.Test.YtjdcicjhpegphaaGreatCiS
namespace Go.Proofs.YtjdcicjhpegphaaGreat
open Go Go.Abs Go.RowKit Go.Sine
set_option linter.unusedVariables false
set_option linter.unusedSimpArgs false
theorem vc_cilatitude (a b : Int) (K : Value → Prop) : callsX Tryz.prog ([(58, .v sPlV)]) (noAnn) 27 [wid a b] K = (
 True ∧ K (Value.bool (decide (LatV a b ∧ LonP 0 0)))) := by kernel_rfl
theorem vc_ciof (o o' g g' d d' s s' p p' : Int) (K : Value → Prop) : callsX Tryz.prog (ΓCo) (noAnn) 6 [wid o o', geo8 g g' d d' s s' p p'] K = (
 True ∧
 bcase (!decide (ArcV o o')) (K (Value.tuple #[Value.agg #[Value.int IntKind.i64 0, Value.int IntKind.i64 0, Value.int IntKind.i64 0, Value.int IntKind.i64 0, Value.int IntKind.i64 0, Value.int IntKind.i64 0], Value.int IntKind.i64 1]))
 (True ∧
 bcase (!decide (ArcV g g')) (K (Value.tuple #[Value.agg #[Value.int IntKind.i64 0, Value.int IntKind.i64 0, Value.int IntKind.i64 0, Value.int IntKind.i64 0, Value.int IntKind.i64 0, Value.int IntKind.i64 0], Value.int IntKind.i64 1]))
 (True ∧
 bcase (!decide (LatV d d')) (K (Value.tuple #[Value.agg #[Value.int IntKind.i64 0, Value.int IntKind.i64 0, Value.int IntKind.i64 0, Value.int IntKind.i64 0, Value.int IntKind.i64 0, Value.int IntKind.i64 0], Value.int IntKind.i64 1]))
 (bcase (decide (o < -5400000)) (K (Value.tuple #[Value.agg #[Value.int IntKind.i64 0, Value.int IntKind.i64 0, Value.int IntKind.i64 0, Value.int IntKind.i64 0, Value.int IntKind.i64 0, Value.int IntKind.i64 0], Value.int IntKind.i64 2]))
 (bcase (decide (o' > 5400000)) (K (Value.tuple #[Value.agg #[Value.int IntKind.i64 0, Value.int IntKind.i64 0, Value.int IntKind.i64 0, Value.int IntKind.i64 0, Value.int IntKind.i64 0, Value.int IntKind.i64 0], Value.int IntKind.i64 2]))
 (ArcV (IntKind.i64.wrap (0 - g')) (IntKind.i64.wrap (0 - g)) ∧
 K (Value.tuple #[Value.agg #[Value.int IntKind.i64 d, Value.int IntKind.i64 d', Value.int IntKind.i64 (loL (IntKind.i64.wrap (0 - g')) (IntKind.i64.wrap (0 - g))), Value.int IntKind.i64 (loH (IntKind.i64.wrap (0 - g')) (IntKind.i64.wrap (0 - g))), Value.int IntKind.i64 (IntKind.i64.wrap (5400000 - o')), Value.int IntKind.i64 (IntKind.i64.wrap (5400000 - o))], Value.int IntKind.i64 0]))))))) := by kernel_rfl
theorem vc_civalid (a b c d e f : Int) (K : Value → Prop) : callsX Tryz.prog (ΓCo) (noAnn) 31 [cir6 a b c d e f] K = (
 True ∧ bcase (decide (LatV a b ∧ LonP c d)) (True ∧ bcase (decide (ArcV e f)) (bcase (decide (e ≥ 0)) (K (Value.bool (decide (f ≤ 10800000)))) (K (Value.bool false))) (K (Value.bool false))) (K (Value.bool false))) := by kernel_rfl
theorem vc_citriangle (a b c d e f p p' q q' : Int) (K : Value → Prop) : callsX Tryz.prog ([]) (noAnn) 32 [cir6 a b c d e f, arc4 p p' q q'] K = (
 K (Value.agg #[Value.int IntKind.i64 p, Value.int IntKind.i64 p', Value.int IntKind.i64 a, Value.int IntKind.i64 b, Value.int IntKind.i64 (IntKind.i64.wrap (q - d)), Value.int IntKind.i64 (IntKind.i64.wrap (q' - c))])) := by kernel_rfl
theorem vc_ciright  (K : Value → Prop) : callsX Tryz.prog ([]) (noAnn) 34 [] K = (
 K (Value.agg #[Value.int IntKind.i64 5400000, Value.int IntKind.i64 5400000])) := by kernel_rfl
theorem vc_citangent (a b c d e f p q : Int) (F G Z U : Int → Int → Int → Int → Int → Int → Int) (K : Value → Prop) : callsX Tryz.prog (ΓCx F G Z U) (noAnn) 8 [cir6 a b c d e f, wid p q] K = (
 PtV p q ∧
 True ∧
 bcase (!decide (CirV a b c d e f)) (K (Value.tuple #[Value.agg #[Value.int IntKind.i64 0, Value.int IntKind.i64 0, Value.int IntKind.i64 0, Value.int IntKind.i64 0, Value.int IntKind.i64 0, Value.int IntKind.i64 0], Value.int IntKind.i64 1]))
 (True ∧
 TrV p p a b (IntKind.i64.wrap (q - d)) (IntKind.i64.wrap (q - c)) ∧
 True ∧
 ZS 0 5400000 5400000 (F p p a b (IntKind.i64.wrap (q - d)) (IntKind.i64.wrap (q - c))) (G p p a b (IntKind.i64.wrap (q - d)) (IntKind.i64.wrap (q - c))) ∧
 ZS 0 (5400000 - G p p a b (IntKind.i64.wrap (q - d)) (IntKind.i64.wrap (q - c))) (5400000 - F p p a b (IntKind.i64.wrap (q - d)) (IntKind.i64.wrap (q - c))) e f ∧
 K
 (Value.tuple
 #[Value.agg
 #[Value.int IntKind.i64 p, Value.int IntKind.i64 q, Value.int IntKind.i64 (Z p p a b (IntKind.i64.wrap (q - d)) (IntKind.i64.wrap (q - c))), Value.int IntKind.i64 (U p p a b (IntKind.i64.wrap (q - d)) (IntKind.i64.wrap (q - c))), Value.int IntKind.i64 (5400000 - G p p a b (IntKind.i64.wrap (q - d)) (IntKind.i64.wrap (q - c)) - f),
 Value.int IntKind.i64 (5400000 - F p p a b (IntKind.i64.wrap (q - d)) (IntKind.i64.wrap (q - c)) - e)],
 Value.int IntKind.i64 0]))) := by kernel_rfl
theorem vc_lialtitude (a b : Int) (K : Value → Prop) : callsX Tryz.prog (ΓAw) (noAnn) 37 [wid a b] K = (
 True ∧ bcase (decide (ArcV a b)) (bcase (decide (a ≥ -5400000)) (K (Value.bool (decide (b ≤ 5400000)))) (K (Value.bool false))) (K (Value.bool false))) := by kernel_rfl
theorem vc_livalid (p q z z' i i' : Int) (K : Value → Prop) : callsX Tryz.prog (ΓLv) (noAnn) 13 [lin6 p q z z' i i'] K = (
 True ∧
 bcase (decide (NearV p q))
 (True ∧ bcase (decide (ArcV z z')) (bcase (decide (z ≥ 0)) (bcase (decide (z < 21600000)) (bcase (decide (IntKind.i64.wrap (z' - z) < 10800000)) (True ∧ bcase (decide (ArcV i i')) (bcase (decide (i ≥ -600000)) (K (Value.bool (decide (i' ≤ 600000)))) (K (Value.bool false))) (K (Value.bool false))) (K (Value.bool false))) (K (Value.bool false))) (K (Value.bool false))) (K (Value.bool false)))
 (K (Value.bool false))) := by kernel_rfl
theorem vc_liof (p q h h' z z' o o' : Int) (K : Value → Prop) : callsX Tryz.prog (ΓLo) (noAnn) 12 [wid p q, arc4 h h' z z', wid o o'] K = (
 True ∧
 bcase (!decide (NearV p q)) (K (Value.tuple #[Value.agg #[Value.int IntKind.i64 0, Value.int IntKind.i64 0, Value.int IntKind.i64 0, Value.int IntKind.i64 0, Value.int IntKind.i64 0, Value.int IntKind.i64 0], Value.int IntKind.i64 1]))
 (True ∧
 bcase (!decide (LatV h h')) (K (Value.tuple #[Value.agg #[Value.int IntKind.i64 0, Value.int IntKind.i64 0, Value.int IntKind.i64 0, Value.int IntKind.i64 0, Value.int IntKind.i64 0, Value.int IntKind.i64 0], Value.int IntKind.i64 1]))
 (True ∧
 bcase (!decide (LatV o o')) (K (Value.tuple #[Value.agg #[Value.int IntKind.i64 0, Value.int IntKind.i64 0, Value.int IntKind.i64 0, Value.int IntKind.i64 0, Value.int IntKind.i64 0, Value.int IntKind.i64 0], Value.int IntKind.i64 1]))
 (True ∧
 bcase (!decide (ArcV z z')) (K (Value.tuple #[Value.agg #[Value.int IntKind.i64 0, Value.int IntKind.i64 0, Value.int IntKind.i64 0, Value.int IntKind.i64 0, Value.int IntKind.i64 0, Value.int IntKind.i64 0], Value.int IntKind.i64 1]))
 (ArcV z z' ∧
 True ∧
 bcase (decide (IntKind.i64.wrap (tuH z z' - tuL z z') ≥ 10800000)) (K (Value.tuple #[Value.agg #[Value.int IntKind.i64 0, Value.int IntKind.i64 0, Value.int IntKind.i64 0, Value.int IntKind.i64 0, Value.int IntKind.i64 0, Value.int IntKind.i64 0], Value.int IntKind.i64 21]))
 (bcase (decide (IntKind.i64.wrap (o - h') ≥ IntKind.i64.wrap (0 - 600000)))
 (bcase (!decide (IntKind.i64.wrap (o' - h) ≤ 600000)) (K (Value.tuple #[Value.agg #[Value.int IntKind.i64 0, Value.int IntKind.i64 0, Value.int IntKind.i64 0, Value.int IntKind.i64 0, Value.int IntKind.i64 0, Value.int IntKind.i64 0], Value.int IntKind.i64 24]))
 (K (Value.tuple #[Value.agg #[Value.int IntKind.i64 p, Value.int IntKind.i64 q, Value.int IntKind.i64 (tuL z z'), Value.int IntKind.i64 (tuH z z'), Value.int IntKind.i64 (IntKind.i64.wrap (o - h')), Value.int IntKind.i64 (IntKind.i64.wrap (o' - h))], Value.int IntKind.i64 0])))
 (K (Value.tuple #[Value.agg #[Value.int IntKind.i64 0, Value.int IntKind.i64 0, Value.int IntKind.i64 0, Value.int IntKind.i64 0, Value.int IntKind.i64 0, Value.int IntKind.i64 0], Value.int IntKind.i64 24])))))))) := by kernel_rfl
theorem vc_lisub (a b c d : Int) (K : Value → Prop) : callsX Tryz.prog ([]) (noAnn) 39 [wid a b, wid c d] K = (
 K (Value.agg #[Value.int IntKind.i64 (IntKind.i64.wrap (a - d)), Value.int IntKind.i64 (IntKind.i64.wrap (b - c))])) := by kernel_rfl
theorem vc_r5sub (a b c d : Int) (K : Value → Prop) : callsX Tryz.prog ([]) (noAnn) 11 [wid a b, wid c d] K = (
 K (Value.agg #[Value.int IntKind.i64 (IntKind.i64.wrap (a - d)), Value.int IntKind.i64 (IntKind.i64.wrap (b - c))])) := by kernel_rfl
theorem vc_wayat (n : Int) (K : Value → Prop) : callsX Tryz.prog ([]) (noAnn) 10 [num n] K = (
 K (Value.agg #[Value.int IntKind.i64 n, Value.int IntKind.i64 n])) := by kernel_rfl
end Go.Proofs.YtjdcicjhpegphaaGreat
