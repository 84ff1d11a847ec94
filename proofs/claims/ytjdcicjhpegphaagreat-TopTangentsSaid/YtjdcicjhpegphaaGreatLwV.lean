/- TopTangents: what the law asks. -/
import Derived.Test.YtjdcicjhpegphaaGreatLwS
namespace Go.Proofs.YtjdcicjhpegphaaGreat
open Go Go.Abs Go.RowKit Go.Sine
set_option linter.unusedVariables false
set_option linter.unusedSimpArgs false
theorem vc_toptangents (g g' d d' s s' t t' o o' p q : Int) (K : Value → Prop) : callsX Tryz.prog (ΓTt) (noAnn) 3 [geo8 g g' d d' s s' t t', wid o o', wid p q] K = (
 True ∧
 True ∧
 ∀ (a b c e r s x : Int),
 OfIs o o' g g' d d' a b c e r s x →
 bcase (x != 0) (bcase (x == 1) (K (Value.bool true)) (K (Value.bool (x == 2))))
 (True ∧
 bcase (!decide (NearV p q)) (K (Value.bool true))
 (TgOk a b c e r s p q ∧
 True ∧
 True ∧
 True ∧
 TrV p p a b (IntKind.i64.wrap (q - e)) (IntKind.i64.wrap (q - c)) ∧
 LoOk p q (hL p p a b (IntKind.i64.wrap (q - e)) (IntKind.i64.wrap (q - c))) (hH p p a b (IntKind.i64.wrap (q - e)) (IntKind.i64.wrap (q - c))) (zL p p a b (IntKind.i64.wrap (q - e)) (IntKind.i64.wrap (q - c))) (zH p p a b (IntKind.i64.wrap (q - e)) (IntKind.i64.wrap (q - c))) o o' ∧
 ∀ (a_1 b_1 c_1 d i j x : Int),
 LoIs (hL p p a b (IntKind.i64.wrap (q - e)) (IntKind.i64.wrap (q - c))) (hH p p a b (IntKind.i64.wrap (q - e)) (IntKind.i64.wrap (q - c))) (zL p p a b (IntKind.i64.wrap (q - e)) (IntKind.i64.wrap (q - c))) (zH p p a b (IntKind.i64.wrap (q - e)) (IntKind.i64.wrap (q - c))) o o' p q a_1 b_1 c_1 d i j x →
 bcase (x != 0)
 (bcase (x == 21) (True ∧ K (Value.bool !decide (LinV p q (zL p p a b (lh q e) (lh q c)) (zH p p a b (lh q e) (lh q c)) (5400000 - hH p p a b (lh q e) (lh q c) - s) (5400000 - hL p p a b (lh q e) (lh q c) - r))))
 (bcase (x == 24) (True ∧ K (Value.bool !decide (LinV p q (zL p p a b (lh q e) (lh q c)) (zH p p a b (lh q e) (lh q c)) (5400000 - hH p p a b (lh q e) (lh q c) - s) (5400000 - hL p p a b (lh q e) (lh q c) - r)))) (K (Value.bool false))))
 (bcase (a_1 == p && (b_1 == q && true) && (c_1 == zL p p a b (lh q e) (lh q c) && (d == zH p p a b (lh q e) (lh q c) && true) && (i == 5400000 - hH p p a b (lh q e) (lh q c) - s && (j == 5400000 - hL p p a b (lh q e) (lh q c) - r && true) && true)))
 (True ∧ K (Value.bool (decide (LinV p q (zL p p a b (lh q e) (lh q c)) (zH p p a b (lh q e) (lh q c)) (5400000 - hH p p a b (lh q e) (lh q c) - s) (5400000 - hL p p a b (lh q e) (lh q c) - r))))) (K (Value.bool false)))))) := by kernel_rfl
end Go.Proofs.YtjdcicjhpegphaaGreat
