/- Refraction: what the law of parts asks. -/
import Derived.Test.YtikbpleaaaeibaaRfrS
namespace Go.Proofs.Ytikbpleaaaeibaa
open Go Go.Abs Go.RowKit
set_option linter.unusedVariables false
set_option linter.unusedSimpArgs false
theorem vc_lawless (a b i k t p : Int) (K : Value → Prop) : callsX Try.prog (ΓLl) (noAnn) 3 [wid a b, .int .u32 i, .int .u32 k, num t, num p] K = (
 True ∧
 True ∧
 bcase (atE a b t p != 0) (K (Value.bool (gate (okT a b t p) (atL b t p) == 0 && (gate (okT a b t p) (atH a t p) == 0 && true))))
 (bcase (decide (a > b)) (K (Value.bool false))
 (bcase (IntKind.i64.wrap (IntKind.i64.wrap (b - a) + 1) == 0) False
 (bcase (IntKind.i64.wrap (IntKind.i64.wrap (b - a) + 1) == 0) False
 (True ∧
 True ∧
 True ∧
 bcase
 (atE
 (if IntKind.i64.wrap (a + (IntKind.i64.wrap k).tmod (IntKind.i64.wrap (IntKind.i64.wrap (b - a) + 1))) < IntKind.i64.wrap (a + (IntKind.i64.wrap i).tmod (IntKind.i64.wrap (IntKind.i64.wrap (b - a) + 1))) then IntKind.i64.wrap (a + (IntKind.i64.wrap k).tmod (IntKind.i64.wrap (IntKind.i64.wrap (b - a) + 1)))
 else IntKind.i64.wrap (a + (IntKind.i64.wrap i).tmod (IntKind.i64.wrap (IntKind.i64.wrap (b - a) + 1))))
 (if IntKind.i64.wrap (a + (IntKind.i64.wrap k).tmod (IntKind.i64.wrap (IntKind.i64.wrap (b - a) + 1))) > IntKind.i64.wrap (a + (IntKind.i64.wrap i).tmod (IntKind.i64.wrap (IntKind.i64.wrap (b - a) + 1))) then IntKind.i64.wrap (a + (IntKind.i64.wrap k).tmod (IntKind.i64.wrap (IntKind.i64.wrap (b - a) + 1)))
 else IntKind.i64.wrap (a + (IntKind.i64.wrap i).tmod (IntKind.i64.wrap (IntKind.i64.wrap (b - a) + 1))))
 t p ==
 0)
 (bcase
 (atE
 (if IntKind.i64.wrap (a + (IntKind.i64.wrap k).tmod (IntKind.i64.wrap (IntKind.i64.wrap (b - a) + 1))) < IntKind.i64.wrap (a + (IntKind.i64.wrap i).tmod (IntKind.i64.wrap (IntKind.i64.wrap (b - a) + 1))) then IntKind.i64.wrap (a + (IntKind.i64.wrap k).tmod (IntKind.i64.wrap (IntKind.i64.wrap (b - a) + 1)))
 else IntKind.i64.wrap (a + (IntKind.i64.wrap i).tmod (IntKind.i64.wrap (IntKind.i64.wrap (b - a) + 1))))
 (if IntKind.i64.wrap (a + (IntKind.i64.wrap k).tmod (IntKind.i64.wrap (IntKind.i64.wrap (b - a) + 1))) < IntKind.i64.wrap (a + (IntKind.i64.wrap i).tmod (IntKind.i64.wrap (IntKind.i64.wrap (b - a) + 1))) then IntKind.i64.wrap (a + (IntKind.i64.wrap k).tmod (IntKind.i64.wrap (IntKind.i64.wrap (b - a) + 1)))
 else IntKind.i64.wrap (a + (IntKind.i64.wrap i).tmod (IntKind.i64.wrap (IntKind.i64.wrap (b - a) + 1))))
 t p ==
 0)
 (bcase
 (atE
 (if IntKind.i64.wrap (a + (IntKind.i64.wrap k).tmod (IntKind.i64.wrap (IntKind.i64.wrap (b - a) + 1))) > IntKind.i64.wrap (a + (IntKind.i64.wrap i).tmod (IntKind.i64.wrap (IntKind.i64.wrap (b - a) + 1))) then IntKind.i64.wrap (a + (IntKind.i64.wrap k).tmod (IntKind.i64.wrap (IntKind.i64.wrap (b - a) + 1)))
 else IntKind.i64.wrap (a + (IntKind.i64.wrap i).tmod (IntKind.i64.wrap (IntKind.i64.wrap (b - a) + 1))))
 (if IntKind.i64.wrap (a + (IntKind.i64.wrap k).tmod (IntKind.i64.wrap (IntKind.i64.wrap (b - a) + 1))) > IntKind.i64.wrap (a + (IntKind.i64.wrap i).tmod (IntKind.i64.wrap (IntKind.i64.wrap (b - a) + 1))) then IntKind.i64.wrap (a + (IntKind.i64.wrap k).tmod (IntKind.i64.wrap (IntKind.i64.wrap (b - a) + 1)))
 else IntKind.i64.wrap (a + (IntKind.i64.wrap i).tmod (IntKind.i64.wrap (IntKind.i64.wrap (b - a) + 1))))
 t p ==
 0)
 (bcase
 (decide
 (gate (okT a b t p) (atL b t p) ≤
 gate
 (okT
 (if IntKind.i64.wrap (a + (IntKind.i64.wrap k).tmod (IntKind.i64.wrap (IntKind.i64.wrap (b - a) + 1))) < IntKind.i64.wrap (a + (IntKind.i64.wrap i).tmod (IntKind.i64.wrap (IntKind.i64.wrap (b - a) + 1))) then IntKind.i64.wrap (a + (IntKind.i64.wrap k).tmod (IntKind.i64.wrap (IntKind.i64.wrap (b - a) + 1)))
 else IntKind.i64.wrap (a + (IntKind.i64.wrap i).tmod (IntKind.i64.wrap (IntKind.i64.wrap (b - a) + 1))))
 (if IntKind.i64.wrap (a + (IntKind.i64.wrap k).tmod (IntKind.i64.wrap (IntKind.i64.wrap (b - a) + 1))) > IntKind.i64.wrap (a + (IntKind.i64.wrap i).tmod (IntKind.i64.wrap (IntKind.i64.wrap (b - a) + 1))) then IntKind.i64.wrap (a + (IntKind.i64.wrap k).tmod (IntKind.i64.wrap (IntKind.i64.wrap (b - a) + 1)))
 else IntKind.i64.wrap (a + (IntKind.i64.wrap i).tmod (IntKind.i64.wrap (IntKind.i64.wrap (b - a) + 1))))
 t p)
 (atL
 (if IntKind.i64.wrap (a + (IntKind.i64.wrap k).tmod (IntKind.i64.wrap (IntKind.i64.wrap (b - a) + 1))) > IntKind.i64.wrap (a + (IntKind.i64.wrap i).tmod (IntKind.i64.wrap (IntKind.i64.wrap (b - a) + 1))) then IntKind.i64.wrap (a + (IntKind.i64.wrap k).tmod (IntKind.i64.wrap (IntKind.i64.wrap (b - a) + 1)))
 else IntKind.i64.wrap (a + (IntKind.i64.wrap i).tmod (IntKind.i64.wrap (IntKind.i64.wrap (b - a) + 1))))
 t p)))
 (bcase
 (decide
 (gate
 (okT
 (if IntKind.i64.wrap (a + (IntKind.i64.wrap k).tmod (IntKind.i64.wrap (IntKind.i64.wrap (b - a) + 1))) < IntKind.i64.wrap (a + (IntKind.i64.wrap i).tmod (IntKind.i64.wrap (IntKind.i64.wrap (b - a) + 1))) then IntKind.i64.wrap (a + (IntKind.i64.wrap k).tmod (IntKind.i64.wrap (IntKind.i64.wrap (b - a) + 1)))
 else IntKind.i64.wrap (a + (IntKind.i64.wrap i).tmod (IntKind.i64.wrap (IntKind.i64.wrap (b - a) + 1))))
 (if IntKind.i64.wrap (a + (IntKind.i64.wrap k).tmod (IntKind.i64.wrap (IntKind.i64.wrap (b - a) + 1))) > IntKind.i64.wrap (a + (IntKind.i64.wrap i).tmod (IntKind.i64.wrap (IntKind.i64.wrap (b - a) + 1))) then IntKind.i64.wrap (a + (IntKind.i64.wrap k).tmod (IntKind.i64.wrap (IntKind.i64.wrap (b - a) + 1)))
 else IntKind.i64.wrap (a + (IntKind.i64.wrap i).tmod (IntKind.i64.wrap (IntKind.i64.wrap (b - a) + 1))))
 t p)
 (atL
 (if IntKind.i64.wrap (a + (IntKind.i64.wrap k).tmod (IntKind.i64.wrap (IntKind.i64.wrap (b - a) + 1))) > IntKind.i64.wrap (a + (IntKind.i64.wrap i).tmod (IntKind.i64.wrap (IntKind.i64.wrap (b - a) + 1))) then IntKind.i64.wrap (a + (IntKind.i64.wrap k).tmod (IntKind.i64.wrap (IntKind.i64.wrap (b - a) + 1)))
 else IntKind.i64.wrap (a + (IntKind.i64.wrap i).tmod (IntKind.i64.wrap (IntKind.i64.wrap (b - a) + 1))))
 t p) ≤
 gate
 (okT
 (if IntKind.i64.wrap (a + (IntKind.i64.wrap k).tmod (IntKind.i64.wrap (IntKind.i64.wrap (b - a) + 1))) < IntKind.i64.wrap (a + (IntKind.i64.wrap i).tmod (IntKind.i64.wrap (IntKind.i64.wrap (b - a) + 1))) then IntKind.i64.wrap (a + (IntKind.i64.wrap k).tmod (IntKind.i64.wrap (IntKind.i64.wrap (b - a) + 1)))
 else IntKind.i64.wrap (a + (IntKind.i64.wrap i).tmod (IntKind.i64.wrap (IntKind.i64.wrap (b - a) + 1))))
 (if IntKind.i64.wrap (a + (IntKind.i64.wrap k).tmod (IntKind.i64.wrap (IntKind.i64.wrap (b - a) + 1))) > IntKind.i64.wrap (a + (IntKind.i64.wrap i).tmod (IntKind.i64.wrap (IntKind.i64.wrap (b - a) + 1))) then IntKind.i64.wrap (a + (IntKind.i64.wrap k).tmod (IntKind.i64.wrap (IntKind.i64.wrap (b - a) + 1)))
 else IntKind.i64.wrap (a + (IntKind.i64.wrap i).tmod (IntKind.i64.wrap (IntKind.i64.wrap (b - a) + 1))))
 t p)
 (atH
 (if IntKind.i64.wrap (a + (IntKind.i64.wrap k).tmod (IntKind.i64.wrap (IntKind.i64.wrap (b - a) + 1))) < IntKind.i64.wrap (a + (IntKind.i64.wrap i).tmod (IntKind.i64.wrap (IntKind.i64.wrap (b - a) + 1))) then IntKind.i64.wrap (a + (IntKind.i64.wrap k).tmod (IntKind.i64.wrap (IntKind.i64.wrap (b - a) + 1)))
 else IntKind.i64.wrap (a + (IntKind.i64.wrap i).tmod (IntKind.i64.wrap (IntKind.i64.wrap (b - a) + 1))))
 t p)))
 (bcase
 (decide
 (gate
 (okT
 (if IntKind.i64.wrap (a + (IntKind.i64.wrap k).tmod (IntKind.i64.wrap (IntKind.i64.wrap (b - a) + 1))) < IntKind.i64.wrap (a + (IntKind.i64.wrap i).tmod (IntKind.i64.wrap (IntKind.i64.wrap (b - a) + 1))) then IntKind.i64.wrap (a + (IntKind.i64.wrap k).tmod (IntKind.i64.wrap (IntKind.i64.wrap (b - a) + 1)))
 else IntKind.i64.wrap (a + (IntKind.i64.wrap i).tmod (IntKind.i64.wrap (IntKind.i64.wrap (b - a) + 1))))
 (if IntKind.i64.wrap (a + (IntKind.i64.wrap k).tmod (IntKind.i64.wrap (IntKind.i64.wrap (b - a) + 1))) > IntKind.i64.wrap (a + (IntKind.i64.wrap i).tmod (IntKind.i64.wrap (IntKind.i64.wrap (b - a) + 1))) then IntKind.i64.wrap (a + (IntKind.i64.wrap k).tmod (IntKind.i64.wrap (IntKind.i64.wrap (b - a) + 1)))
 else IntKind.i64.wrap (a + (IntKind.i64.wrap i).tmod (IntKind.i64.wrap (IntKind.i64.wrap (b - a) + 1))))
 t p)
 (atH
 (if IntKind.i64.wrap (a + (IntKind.i64.wrap k).tmod (IntKind.i64.wrap (IntKind.i64.wrap (b - a) + 1))) < IntKind.i64.wrap (a + (IntKind.i64.wrap i).tmod (IntKind.i64.wrap (IntKind.i64.wrap (b - a) + 1))) then IntKind.i64.wrap (a + (IntKind.i64.wrap k).tmod (IntKind.i64.wrap (IntKind.i64.wrap (b - a) + 1)))
 else IntKind.i64.wrap (a + (IntKind.i64.wrap i).tmod (IntKind.i64.wrap (IntKind.i64.wrap (b - a) + 1))))
 t p) ≤
 gate (okT a b t p) (atH a t p)))
 (bcase
 (decide
 (gate
 (okT
 (if IntKind.i64.wrap (a + (IntKind.i64.wrap k).tmod (IntKind.i64.wrap (IntKind.i64.wrap (b - a) + 1))) > IntKind.i64.wrap (a + (IntKind.i64.wrap i).tmod (IntKind.i64.wrap (IntKind.i64.wrap (b - a) + 1))) then IntKind.i64.wrap (a + (IntKind.i64.wrap k).tmod (IntKind.i64.wrap (IntKind.i64.wrap (b - a) + 1)))
 else IntKind.i64.wrap (a + (IntKind.i64.wrap i).tmod (IntKind.i64.wrap (IntKind.i64.wrap (b - a) + 1))))
 (if IntKind.i64.wrap (a + (IntKind.i64.wrap k).tmod (IntKind.i64.wrap (IntKind.i64.wrap (b - a) + 1))) > IntKind.i64.wrap (a + (IntKind.i64.wrap i).tmod (IntKind.i64.wrap (IntKind.i64.wrap (b - a) + 1))) then IntKind.i64.wrap (a + (IntKind.i64.wrap k).tmod (IntKind.i64.wrap (IntKind.i64.wrap (b - a) + 1)))
 else IntKind.i64.wrap (a + (IntKind.i64.wrap i).tmod (IntKind.i64.wrap (IntKind.i64.wrap (b - a) + 1))))
 t p)
 (atL
 (if IntKind.i64.wrap (a + (IntKind.i64.wrap k).tmod (IntKind.i64.wrap (IntKind.i64.wrap (b - a) + 1))) > IntKind.i64.wrap (a + (IntKind.i64.wrap i).tmod (IntKind.i64.wrap (IntKind.i64.wrap (b - a) + 1))) then IntKind.i64.wrap (a + (IntKind.i64.wrap k).tmod (IntKind.i64.wrap (IntKind.i64.wrap (b - a) + 1)))
 else IntKind.i64.wrap (a + (IntKind.i64.wrap i).tmod (IntKind.i64.wrap (IntKind.i64.wrap (b - a) + 1))))
 t p) ≤
 gate
 (okT
 (if IntKind.i64.wrap (a + (IntKind.i64.wrap k).tmod (IntKind.i64.wrap (IntKind.i64.wrap (b - a) + 1))) < IntKind.i64.wrap (a + (IntKind.i64.wrap i).tmod (IntKind.i64.wrap (IntKind.i64.wrap (b - a) + 1))) then IntKind.i64.wrap (a + (IntKind.i64.wrap k).tmod (IntKind.i64.wrap (IntKind.i64.wrap (b - a) + 1)))
 else IntKind.i64.wrap (a + (IntKind.i64.wrap i).tmod (IntKind.i64.wrap (IntKind.i64.wrap (b - a) + 1))))
 (if IntKind.i64.wrap (a + (IntKind.i64.wrap k).tmod (IntKind.i64.wrap (IntKind.i64.wrap (b - a) + 1))) < IntKind.i64.wrap (a + (IntKind.i64.wrap i).tmod (IntKind.i64.wrap (IntKind.i64.wrap (b - a) + 1))) then IntKind.i64.wrap (a + (IntKind.i64.wrap k).tmod (IntKind.i64.wrap (IntKind.i64.wrap (b - a) + 1)))
 else IntKind.i64.wrap (a + (IntKind.i64.wrap i).tmod (IntKind.i64.wrap (IntKind.i64.wrap (b - a) + 1))))
 t p)
 (atL
 (if IntKind.i64.wrap (a + (IntKind.i64.wrap k).tmod (IntKind.i64.wrap (IntKind.i64.wrap (b - a) + 1))) < IntKind.i64.wrap (a + (IntKind.i64.wrap i).tmod (IntKind.i64.wrap (IntKind.i64.wrap (b - a) + 1))) then IntKind.i64.wrap (a + (IntKind.i64.wrap k).tmod (IntKind.i64.wrap (IntKind.i64.wrap (b - a) + 1)))
 else IntKind.i64.wrap (a + (IntKind.i64.wrap i).tmod (IntKind.i64.wrap (IntKind.i64.wrap (b - a) + 1))))
 t p)))
 (bcase
 (decide
 (gate
 (okT
 (if IntKind.i64.wrap (a + (IntKind.i64.wrap k).tmod (IntKind.i64.wrap (IntKind.i64.wrap (b - a) + 1))) > IntKind.i64.wrap (a + (IntKind.i64.wrap i).tmod (IntKind.i64.wrap (IntKind.i64.wrap (b - a) + 1))) then IntKind.i64.wrap (a + (IntKind.i64.wrap k).tmod (IntKind.i64.wrap (IntKind.i64.wrap (b - a) + 1)))
 else IntKind.i64.wrap (a + (IntKind.i64.wrap i).tmod (IntKind.i64.wrap (IntKind.i64.wrap (b - a) + 1))))
 (if IntKind.i64.wrap (a + (IntKind.i64.wrap k).tmod (IntKind.i64.wrap (IntKind.i64.wrap (b - a) + 1))) > IntKind.i64.wrap (a + (IntKind.i64.wrap i).tmod (IntKind.i64.wrap (IntKind.i64.wrap (b - a) + 1))) then IntKind.i64.wrap (a + (IntKind.i64.wrap k).tmod (IntKind.i64.wrap (IntKind.i64.wrap (b - a) + 1)))
 else IntKind.i64.wrap (a + (IntKind.i64.wrap i).tmod (IntKind.i64.wrap (IntKind.i64.wrap (b - a) + 1))))
 t p)
 (atH
 (if IntKind.i64.wrap (a + (IntKind.i64.wrap k).tmod (IntKind.i64.wrap (IntKind.i64.wrap (b - a) + 1))) > IntKind.i64.wrap (a + (IntKind.i64.wrap i).tmod (IntKind.i64.wrap (IntKind.i64.wrap (b - a) + 1))) then IntKind.i64.wrap (a + (IntKind.i64.wrap k).tmod (IntKind.i64.wrap (IntKind.i64.wrap (b - a) + 1)))
 else IntKind.i64.wrap (a + (IntKind.i64.wrap i).tmod (IntKind.i64.wrap (IntKind.i64.wrap (b - a) + 1))))
 t p) ≤
 gate
 (okT
 (if IntKind.i64.wrap (a + (IntKind.i64.wrap k).tmod (IntKind.i64.wrap (IntKind.i64.wrap (b - a) + 1))) < IntKind.i64.wrap (a + (IntKind.i64.wrap i).tmod (IntKind.i64.wrap (IntKind.i64.wrap (b - a) + 1))) then IntKind.i64.wrap (a + (IntKind.i64.wrap k).tmod (IntKind.i64.wrap (IntKind.i64.wrap (b - a) + 1)))
 else IntKind.i64.wrap (a + (IntKind.i64.wrap i).tmod (IntKind.i64.wrap (IntKind.i64.wrap (b - a) + 1))))
 (if IntKind.i64.wrap (a + (IntKind.i64.wrap k).tmod (IntKind.i64.wrap (IntKind.i64.wrap (b - a) + 1))) < IntKind.i64.wrap (a + (IntKind.i64.wrap i).tmod (IntKind.i64.wrap (IntKind.i64.wrap (b - a) + 1))) then IntKind.i64.wrap (a + (IntKind.i64.wrap k).tmod (IntKind.i64.wrap (IntKind.i64.wrap (b - a) + 1)))
 else IntKind.i64.wrap (a + (IntKind.i64.wrap i).tmod (IntKind.i64.wrap (IntKind.i64.wrap (b - a) + 1))))
 t p)
 (atH
 (if IntKind.i64.wrap (a + (IntKind.i64.wrap k).tmod (IntKind.i64.wrap (IntKind.i64.wrap (b - a) + 1))) < IntKind.i64.wrap (a + (IntKind.i64.wrap i).tmod (IntKind.i64.wrap (IntKind.i64.wrap (b - a) + 1))) then IntKind.i64.wrap (a + (IntKind.i64.wrap k).tmod (IntKind.i64.wrap (IntKind.i64.wrap (b - a) + 1)))
 else IntKind.i64.wrap (a + (IntKind.i64.wrap i).tmod (IntKind.i64.wrap (IntKind.i64.wrap (b - a) + 1))))
 t p)))
 (K
 (Value.bool
 (decide
 (IntKind.i64.wrap
 (gate
 (okT
 (if IntKind.i64.wrap (a + (IntKind.i64.wrap k).tmod (IntKind.i64.wrap (IntKind.i64.wrap (b - a) + 1))) < IntKind.i64.wrap (a + (IntKind.i64.wrap i).tmod (IntKind.i64.wrap (IntKind.i64.wrap (b - a) + 1))) then IntKind.i64.wrap (a + (IntKind.i64.wrap k).tmod (IntKind.i64.wrap (IntKind.i64.wrap (b - a) + 1)))
 else IntKind.i64.wrap (a + (IntKind.i64.wrap i).tmod (IntKind.i64.wrap (IntKind.i64.wrap (b - a) + 1))))
 (if IntKind.i64.wrap (a + (IntKind.i64.wrap k).tmod (IntKind.i64.wrap (IntKind.i64.wrap (b - a) + 1))) < IntKind.i64.wrap (a + (IntKind.i64.wrap i).tmod (IntKind.i64.wrap (IntKind.i64.wrap (b - a) + 1))) then IntKind.i64.wrap (a + (IntKind.i64.wrap k).tmod (IntKind.i64.wrap (IntKind.i64.wrap (b - a) + 1)))
 else IntKind.i64.wrap (a + (IntKind.i64.wrap i).tmod (IntKind.i64.wrap (IntKind.i64.wrap (b - a) + 1))))
 t p)
 (atH
 (if IntKind.i64.wrap (a + (IntKind.i64.wrap k).tmod (IntKind.i64.wrap (IntKind.i64.wrap (b - a) + 1))) < IntKind.i64.wrap (a + (IntKind.i64.wrap i).tmod (IntKind.i64.wrap (IntKind.i64.wrap (b - a) + 1))) then IntKind.i64.wrap (a + (IntKind.i64.wrap k).tmod (IntKind.i64.wrap (IntKind.i64.wrap (b - a) + 1)))
 else IntKind.i64.wrap (a + (IntKind.i64.wrap i).tmod (IntKind.i64.wrap (IntKind.i64.wrap (b - a) + 1))))
 t p) -
 gate
 (okT
 (if IntKind.i64.wrap (a + (IntKind.i64.wrap k).tmod (IntKind.i64.wrap (IntKind.i64.wrap (b - a) + 1))) < IntKind.i64.wrap (a + (IntKind.i64.wrap i).tmod (IntKind.i64.wrap (IntKind.i64.wrap (b - a) + 1))) then IntKind.i64.wrap (a + (IntKind.i64.wrap k).tmod (IntKind.i64.wrap (IntKind.i64.wrap (b - a) + 1)))
 else IntKind.i64.wrap (a + (IntKind.i64.wrap i).tmod (IntKind.i64.wrap (IntKind.i64.wrap (b - a) + 1))))
 (if IntKind.i64.wrap (a + (IntKind.i64.wrap k).tmod (IntKind.i64.wrap (IntKind.i64.wrap (b - a) + 1))) < IntKind.i64.wrap (a + (IntKind.i64.wrap i).tmod (IntKind.i64.wrap (IntKind.i64.wrap (b - a) + 1))) then IntKind.i64.wrap (a + (IntKind.i64.wrap k).tmod (IntKind.i64.wrap (IntKind.i64.wrap (b - a) + 1)))
 else IntKind.i64.wrap (a + (IntKind.i64.wrap i).tmod (IntKind.i64.wrap (IntKind.i64.wrap (b - a) + 1))))
 t p)
 (atL
 (if IntKind.i64.wrap (a + (IntKind.i64.wrap k).tmod (IntKind.i64.wrap (IntKind.i64.wrap (b - a) + 1))) < IntKind.i64.wrap (a + (IntKind.i64.wrap i).tmod (IntKind.i64.wrap (IntKind.i64.wrap (b - a) + 1))) then IntKind.i64.wrap (a + (IntKind.i64.wrap k).tmod (IntKind.i64.wrap (IntKind.i64.wrap (b - a) + 1)))
 else IntKind.i64.wrap (a + (IntKind.i64.wrap i).tmod (IntKind.i64.wrap (IntKind.i64.wrap (b - a) + 1))))
 t p)) <
 20))))
 (K (Value.bool false)))
 (K (Value.bool false)))
 (K (Value.bool false)))
 (K (Value.bool false)))
 (K (Value.bool false)))
 (K (Value.bool false)))
 (K (Value.bool false)))
 (K (Value.bool false))))))) := by kernel_rfl
end Go.Proofs.Ytikbpleaaaeibaa
