/- The region around a place: what it asks at the example. -/
import Derived.Test.YtjdcicjhpegphaaGreatWdS
namespace Go.Proofs.YtjdcicjhpegphaaGreat
open Go Go.Abs Go.RowKit Go.Sine
set_option linter.unusedVariables false
set_option linter.unusedSimpArgs false
theorem vc_around3 (u : Nat) : (rcallsN 40 Tryz.prog ΓAr3 AAd 25 [.one (.v (plc 0 0 0 0)), .one (.v (num 3))] [.one (.r 111 cET [(3, 3, 7), (3, 4, 7), (3, 3, 8), (3, 4, 8)]), .one (.v (num 0))]) = (
 True ∧
 ClOk (Int.ofNat 0) (Int.ofNat 0) (Int.ofNat 0) ∧
 BoOk 0 0 0 0 (Int.negSucc 5399999) (Int.ofNat 5400000) (Int.negSucc 10799999) (Int.ofNat 0) ∧
 BoOk 0 0 0 0 (bx1 (Int.ofNat 0) (Int.ofNat 0)) (bx1 (Int.ofNat 0) (Int.ofNat 0 + 1)) (bx2 (Int.ofNat 0) (Int.ofNat 0)) (bx2 (Int.ofNat 0) (Int.ofNat 0 + 1)) ∧
 ClOk (Int.ofNat 0) (Int.ofNat 0) (Int.ofNat 0) ∧
 ClOk (Int.ofNat 1) (Int.ofNat 0) (Int.ofNat 0) ∧
 BoOk 0 0 0 0 (Int.negSucc 5399999) (Int.ofNat 0) (Int.negSucc 10799999) (Int.negSucc 5399999) ∧
 ClOk (Int.ofNat 1) (Int.ofNat 0) (Int.ofNat 1) ∧
 BoOk 0 0 0 0 (Int.negSucc 5399999) (Int.ofNat 0) (Int.negSucc 5399999) (Int.ofNat 0) ∧
 BoOk 0 0 0 0 (bx1 (Int.ofNat 1) (Int.ofNat 0)) (bx1 (Int.ofNat 1) (Int.ofNat 0 + 1)) (bx2 (Int.ofNat 1) (Int.ofNat 1)) (bx2 (Int.ofNat 1) (Int.ofNat 1 + 1)) ∧
 ClOk (Int.ofNat 1) (Int.ofNat 0) (Int.ofNat 1) ∧
 ClOk (Int.ofNat 2) (Int.ofNat 0) (Int.ofNat 2) ∧
 BoOk 0 0 0 0 (Int.negSucc 5399999) (Int.negSucc 2699999) (Int.negSucc 5399999) (Int.negSucc 2699999) ∧
 ClOk (Int.ofNat 2) (Int.ofNat 0) (Int.ofNat 3) ∧
 BoOk 0 0 0 0 (Int.negSucc 5399999) (Int.negSucc 2699999) (Int.negSucc 2699999) (Int.ofNat 0) ∧
 ClOk (Int.ofNat 2) (Int.ofNat 1) (Int.ofNat 2) ∧
 BoOk 0 0 0 0 (Int.negSucc 2699999) (Int.ofNat 0) (Int.negSucc 5399999) (Int.negSucc 2699999) ∧
 ClOk (Int.ofNat 2) (Int.ofNat 1) (Int.ofNat 3) ∧
 BoOk 0 0 0 0 (Int.negSucc 2699999) (Int.ofNat 0) (Int.negSucc 2699999) (Int.ofNat 0) ∧
 BoOk 0 0 0 0 (bx1 (Int.ofNat 2) (Int.ofNat 1)) (bx1 (Int.ofNat 2) (Int.ofNat 1 + 1)) (bx2 (Int.ofNat 2) (Int.ofNat 3)) (bx2 (Int.ofNat 2) (Int.ofNat 3 + 1)) ∧
 ClOk (Int.ofNat 2) (Int.ofNat 1) (Int.ofNat 3) ∧
 ClOk (Int.ofNat 3) (Int.ofNat 2) (Int.ofNat 6) ∧
 BoOk 0 0 0 0 (Int.negSucc 2699999) (Int.negSucc 1349999) (Int.negSucc 2699999) (Int.negSucc 1349999) ∧
 ClOk (Int.ofNat 3) (Int.ofNat 2) (Int.ofNat 7) ∧
 BoOk 0 0 0 0 (Int.negSucc 2699999) (Int.negSucc 1349999) (Int.negSucc 1349999) (Int.ofNat 0) ∧
 ClOk (Int.ofNat 3) (Int.ofNat 3) (Int.ofNat 6) ∧
 BoOk 0 0 0 0 (Int.negSucc 1349999) (Int.ofNat 0) (Int.negSucc 2699999) (Int.negSucc 1349999) ∧
 ClOk (Int.ofNat 3) (Int.ofNat 3) (Int.ofNat 7) ∧
 BoOk 0 0 0 0 (Int.negSucc 1349999) (Int.ofNat 0) (Int.negSucc 1349999) (Int.ofNat 0) ∧
 ClOk (Int.ofNat 1) (Int.ofNat 1) (Int.ofNat 0) ∧
 BoOk 0 0 0 0 (Int.ofNat 0) (Int.ofNat 5400000) (Int.negSucc 10799999) (Int.negSucc 5399999) ∧
 ClOk (Int.ofNat 1) (Int.ofNat 1) (Int.ofNat 1) ∧
 BoOk 0 0 0 0 (Int.ofNat 0) (Int.ofNat 5400000) (Int.negSucc 5399999) (Int.ofNat 0) ∧
 BoOk 0 0 0 0 (bx1 (Int.ofNat 1) (Int.ofNat 1)) (bx1 (Int.ofNat 1) (Int.ofNat 1 + 1)) (bx2 (Int.ofNat 1) (Int.ofNat 1)) (bx2 (Int.ofNat 1) (Int.ofNat 1 + 1)) ∧
 ClOk (Int.ofNat 1) (Int.ofNat 1) (Int.ofNat 1) ∧
 ClOk (Int.ofNat 2) (Int.ofNat 2) (Int.ofNat 2) ∧
 BoOk 0 0 0 0 (Int.ofNat 0) (Int.ofNat 2700000) (Int.negSucc 5399999) (Int.negSucc 2699999) ∧
 ClOk (Int.ofNat 2) (Int.ofNat 2) (Int.ofNat 3) ∧
 BoOk 0 0 0 0 (Int.ofNat 0) (Int.ofNat 2700000) (Int.negSucc 2699999) (Int.ofNat 0) ∧
 BoOk 0 0 0 0 (bx1 (Int.ofNat 2) (Int.ofNat 2)) (bx1 (Int.ofNat 2) (Int.ofNat 2 + 1)) (bx2 (Int.ofNat 2) (Int.ofNat 3)) (bx2 (Int.ofNat 2) (Int.ofNat 3 + 1)) ∧
 ClOk (Int.ofNat 2) (Int.ofNat 2) (Int.ofNat 3) ∧
 ClOk (Int.ofNat 3) (Int.ofNat 4) (Int.ofNat 6) ∧
 BoOk 0 0 0 0 (Int.ofNat 0) (Int.ofNat 1350000) (Int.negSucc 2699999) (Int.negSucc 1349999) ∧
 ClOk (Int.ofNat 3) (Int.ofNat 4) (Int.ofNat 7) ∧
 BoOk 0 0 0 0 (Int.ofNat 0) (Int.ofNat 1350000) (Int.negSucc 1349999) (Int.ofNat 0) ∧
 1 = 1 ∧
 ClOk (Int.ofNat 3) (Int.ofNat 5) (Int.ofNat 6) ∧
 BoOk 0 0 0 0 (Int.ofNat 1350000) (Int.ofNat 2700000) (Int.negSucc 2699999) (Int.negSucc 1349999) ∧
 ClOk (Int.ofNat 3) (Int.ofNat 5) (Int.ofNat 7) ∧
 BoOk 0 0 0 0 (Int.ofNat 1350000) (Int.ofNat 2700000) (Int.negSucc 1349999) (Int.ofNat 0) ∧
 ClOk (Int.ofNat 2) (Int.ofNat 3) (Int.ofNat 2) ∧
 BoOk 0 0 0 0 (Int.ofNat 2700000) (Int.ofNat 5400000) (Int.negSucc 5399999) (Int.negSucc 2699999) ∧
 ClOk (Int.ofNat 2) (Int.ofNat 3) (Int.ofNat 3) ∧
 BoOk 0 0 0 0 (Int.ofNat 2700000) (Int.ofNat 5400000) (Int.negSucc 2699999) (Int.ofNat 0) ∧
 ClOk (Int.ofNat 0) (Int.ofNat 0) (Int.ofNat 1) ∧
 BoOk 0 0 0 0 (Int.negSucc 5399999) (Int.ofNat 5400000) (Int.ofNat 0) (Int.ofNat 10800000) ∧
 BoOk 0 0 0 0 (bx1 (Int.ofNat 0) (Int.ofNat 0)) (bx1 (Int.ofNat 0) (Int.ofNat 0 + 1)) (bx2 (Int.ofNat 0) (Int.ofNat 1)) (bx2 (Int.ofNat 0) (Int.ofNat 1 + 1)) ∧
 ClOk (Int.ofNat 0) (Int.ofNat 0) (Int.ofNat 1) ∧
 ClOk (Int.ofNat 1) (Int.ofNat 0) (Int.ofNat 2) ∧
 BoOk 0 0 0 0 (Int.negSucc 5399999) (Int.ofNat 0) (Int.ofNat 0) (Int.ofNat 5400000) ∧
 BoOk 0 0 0 0 (bx1 (Int.ofNat 1) (Int.ofNat 0)) (bx1 (Int.ofNat 1) (Int.ofNat 0 + 1)) (bx2 (Int.ofNat 1) (Int.ofNat 2)) (bx2 (Int.ofNat 1) (Int.ofNat 2 + 1)) ∧
 ClOk (Int.ofNat 1) (Int.ofNat 0) (Int.ofNat 2) ∧
 ClOk (Int.ofNat 2) (Int.ofNat 0) (Int.ofNat 4) ∧
 BoOk 0 0 0 0 (Int.negSucc 5399999) (Int.negSucc 2699999) (Int.ofNat 0) (Int.ofNat 2700000) ∧
 ClOk (Int.ofNat 2) (Int.ofNat 0) (Int.ofNat 5) ∧
 BoOk 0 0 0 0 (Int.negSucc 5399999) (Int.negSucc 2699999) (Int.ofNat 2700000) (Int.ofNat 5400000) ∧
 ClOk (Int.ofNat 2) (Int.ofNat 1) (Int.ofNat 4) ∧
 BoOk 0 0 0 0 (Int.negSucc 2699999) (Int.ofNat 0) (Int.ofNat 0) (Int.ofNat 2700000) ∧
 BoOk 0 0 0 0 (bx1 (Int.ofNat 2) (Int.ofNat 1)) (bx1 (Int.ofNat 2) (Int.ofNat 1 + 1)) (bx2 (Int.ofNat 2) (Int.ofNat 4)) (bx2 (Int.ofNat 2) (Int.ofNat 4 + 1)) ∧
 ClOk (Int.ofNat 2) (Int.ofNat 1) (Int.ofNat 4) ∧
 ClOk (Int.ofNat 3) (Int.ofNat 2) (Int.ofNat 8) ∧
 BoOk 0 0 0 0 (Int.negSucc 2699999) (Int.negSucc 1349999) (Int.ofNat 0) (Int.ofNat 1350000) ∧
 ClOk (Int.ofNat 3) (Int.ofNat 2) (Int.ofNat 9) ∧
 BoOk 0 0 0 0 (Int.negSucc 2699999) (Int.negSucc 1349999) (Int.ofNat 1350000) (Int.ofNat 2700000) ∧
 ClOk (Int.ofNat 3) (Int.ofNat 3) (Int.ofNat 8) ∧
 BoOk 0 0 0 0 (Int.negSucc 1349999) (Int.ofNat 0) (Int.ofNat 0) (Int.ofNat 1350000) ∧
 2 = 2 ∧
 ClOk (Int.ofNat 3) (Int.ofNat 3) (Int.ofNat 9) ∧
 BoOk 0 0 0 0 (Int.negSucc 1349999) (Int.ofNat 0) (Int.ofNat 1350000) (Int.ofNat 2700000) ∧
 ClOk (Int.ofNat 2) (Int.ofNat 1) (Int.ofNat 5) ∧
 BoOk 0 0 0 0 (Int.negSucc 2699999) (Int.ofNat 0) (Int.ofNat 2700000) (Int.ofNat 5400000) ∧
 ClOk (Int.ofNat 1) (Int.ofNat 0) (Int.ofNat 3) ∧
 BoOk 0 0 0 0 (Int.negSucc 5399999) (Int.ofNat 0) (Int.ofNat 5400000) (Int.ofNat 10800000) ∧
 ClOk (Int.ofNat 1) (Int.ofNat 1) (Int.ofNat 2) ∧
 BoOk 0 0 0 0 (Int.ofNat 0) (Int.ofNat 5400000) (Int.ofNat 0) (Int.ofNat 5400000) ∧
 BoOk 0 0 0 0 (bx1 (Int.ofNat 1) (Int.ofNat 1)) (bx1 (Int.ofNat 1) (Int.ofNat 1 + 1)) (bx2 (Int.ofNat 1) (Int.ofNat 2)) (bx2 (Int.ofNat 1) (Int.ofNat 2 + 1)) ∧
 ClOk (Int.ofNat 1) (Int.ofNat 1) (Int.ofNat 2) ∧
 ClOk (Int.ofNat 2) (Int.ofNat 2) (Int.ofNat 4) ∧
 BoOk 0 0 0 0 (Int.ofNat 0) (Int.ofNat 2700000) (Int.ofNat 0) (Int.ofNat 2700000) ∧
 BoOk 0 0 0 0 (bx1 (Int.ofNat 2) (Int.ofNat 2)) (bx1 (Int.ofNat 2) (Int.ofNat 2 + 1)) (bx2 (Int.ofNat 2) (Int.ofNat 4)) (bx2 (Int.ofNat 2) (Int.ofNat 4 + 1)) ∧
 ClOk (Int.ofNat 2) (Int.ofNat 2) (Int.ofNat 4) ∧
 ClOk (Int.ofNat 3) (Int.ofNat 4) (Int.ofNat 8) ∧
 BoOk 0 0 0 0 (Int.ofNat 0) (Int.ofNat 1350000) (Int.ofNat 0) (Int.ofNat 1350000) ∧
 3 = 3 ∧
 ClOk
 ([(((chL (Int.ofNat 2) (Int.ofNat 1) (Int.ofNat 3)).getD 3 (0, 0, 0)).fst, ((chL (Int.ofNat 2) (Int.ofNat 1) (Int.ofNat 3)).getD 3 (0, 0, 0)).snd.fst, ((chL (Int.ofNat 2) (Int.ofNat 1) (Int.ofNat 3)).getD 3 (0, 0, 0)).snd.snd),
 (((chL (Int.ofNat 2) (Int.ofNat 2) (Int.ofNat 3)).getD 1 (0, 0, 0)).fst, ((chL (Int.ofNat 2) (Int.ofNat 2) (Int.ofNat 3)).getD 1 (0, 0, 0)).snd.fst, ((chL (Int.ofNat 2) (Int.ofNat 2) (Int.ofNat 3)).getD 1 (0, 0, 0)).snd.snd),
 (((chL (Int.ofNat 2) (Int.ofNat 1) (Int.ofNat 4)).getD 2 (0, 0, 0)).fst, ((chL (Int.ofNat 2) (Int.ofNat 1) (Int.ofNat 4)).getD 2 (0, 0, 0)).snd.fst, ((chL (Int.ofNat 2) (Int.ofNat 1) (Int.ofNat 4)).getD 2 (0, 0, 0)).snd.snd),
 (((chL (Int.ofNat 2) (Int.ofNat 2) (Int.ofNat 4)).getD 0 (0, 0, 0)).fst, ((chL (Int.ofNat 2) (Int.ofNat 2) (Int.ofNat 4)).getD 0 (0, 0, 0)).snd.fst, ((chL (Int.ofNat 2) (Int.ofNat 2) (Int.ofNat 4)).getD 0 (0, 0, 0)).snd.snd)].getD
 0 (0, 0, 0)).fst
 ([(((chL (Int.ofNat 2) (Int.ofNat 1) (Int.ofNat 3)).getD 3 (0, 0, 0)).fst, ((chL (Int.ofNat 2) (Int.ofNat 1) (Int.ofNat 3)).getD 3 (0, 0, 0)).snd.fst, ((chL (Int.ofNat 2) (Int.ofNat 1) (Int.ofNat 3)).getD 3 (0, 0, 0)).snd.snd),
 (((chL (Int.ofNat 2) (Int.ofNat 2) (Int.ofNat 3)).getD 1 (0, 0, 0)).fst, ((chL (Int.ofNat 2) (Int.ofNat 2) (Int.ofNat 3)).getD 1 (0, 0, 0)).snd.fst, ((chL (Int.ofNat 2) (Int.ofNat 2) (Int.ofNat 3)).getD 1 (0, 0, 0)).snd.snd),
 (((chL (Int.ofNat 2) (Int.ofNat 1) (Int.ofNat 4)).getD 2 (0, 0, 0)).fst, ((chL (Int.ofNat 2) (Int.ofNat 1) (Int.ofNat 4)).getD 2 (0, 0, 0)).snd.fst, ((chL (Int.ofNat 2) (Int.ofNat 1) (Int.ofNat 4)).getD 2 (0, 0, 0)).snd.snd),
 (((chL (Int.ofNat 2) (Int.ofNat 2) (Int.ofNat 4)).getD 0 (0, 0, 0)).fst, ((chL (Int.ofNat 2) (Int.ofNat 2) (Int.ofNat 4)).getD 0 (0, 0, 0)).snd.fst, ((chL (Int.ofNat 2) (Int.ofNat 2) (Int.ofNat 4)).getD 0 (0, 0, 0)).snd.snd)].getD
 0 (0, 0, 0)).snd.fst
 ([(((chL (Int.ofNat 2) (Int.ofNat 1) (Int.ofNat 3)).getD 3 (0, 0, 0)).fst, ((chL (Int.ofNat 2) (Int.ofNat 1) (Int.ofNat 3)).getD 3 (0, 0, 0)).snd.fst, ((chL (Int.ofNat 2) (Int.ofNat 1) (Int.ofNat 3)).getD 3 (0, 0, 0)).snd.snd),
 (((chL (Int.ofNat 2) (Int.ofNat 2) (Int.ofNat 3)).getD 1 (0, 0, 0)).fst, ((chL (Int.ofNat 2) (Int.ofNat 2) (Int.ofNat 3)).getD 1 (0, 0, 0)).snd.fst, ((chL (Int.ofNat 2) (Int.ofNat 2) (Int.ofNat 3)).getD 1 (0, 0, 0)).snd.snd),
 (((chL (Int.ofNat 2) (Int.ofNat 1) (Int.ofNat 4)).getD 2 (0, 0, 0)).fst, ((chL (Int.ofNat 2) (Int.ofNat 1) (Int.ofNat 4)).getD 2 (0, 0, 0)).snd.fst, ((chL (Int.ofNat 2) (Int.ofNat 1) (Int.ofNat 4)).getD 2 (0, 0, 0)).snd.snd),
 (((chL (Int.ofNat 2) (Int.ofNat 2) (Int.ofNat 4)).getD 0 (0, 0, 0)).fst, ((chL (Int.ofNat 2) (Int.ofNat 2) (Int.ofNat 4)).getD 0 (0, 0, 0)).snd.fst, ((chL (Int.ofNat 2) (Int.ofNat 2) (Int.ofNat 4)).getD 0 (0, 0, 0)).snd.snd)].getD
 0 (0, 0, 0)).snd.snd ∧
 ClOk (Int.ofNat 2) (Int.ofNat 1) (Int.ofNat 3) ∧
 ClOk (Int.ofNat 3) (Int.ofNat 4) (Int.ofNat 9) ∧
 BoOk 0 0 0 0 (Int.ofNat 0) (Int.ofNat 1350000) (Int.ofNat 1350000) (Int.ofNat 2700000) ∧
 ClOk (Int.ofNat 3) (Int.ofNat 5) (Int.ofNat 8) ∧
 BoOk 0 0 0 0 (Int.ofNat 1350000) (Int.ofNat 2700000) (Int.ofNat 0) (Int.ofNat 1350000) ∧
 ClOk (Int.ofNat 3) (Int.ofNat 5) (Int.ofNat 9) ∧
 BoOk 0 0 0 0 (Int.ofNat 1350000) (Int.ofNat 2700000) (Int.ofNat 1350000) (Int.ofNat 2700000) ∧
 ClOk (Int.ofNat 2) (Int.ofNat 2) (Int.ofNat 5) ∧
 BoOk 0 0 0 0 (Int.ofNat 0) (Int.ofNat 2700000) (Int.ofNat 2700000) (Int.ofNat 5400000) ∧
 ClOk (Int.ofNat 2) (Int.ofNat 3) (Int.ofNat 4) ∧
 BoOk 0 0 0 0 (Int.ofNat 2700000) (Int.ofNat 5400000) (Int.ofNat 0) (Int.ofNat 2700000) ∧
 ClOk (Int.ofNat 2) (Int.ofNat 3) (Int.ofNat 5) ∧
 BoOk 0 0 0 0 (Int.ofNat 2700000) (Int.ofNat 5400000) (Int.ofNat 2700000) (Int.ofNat 5400000) ∧
 ClOk (Int.ofNat 1) (Int.ofNat 1) (Int.ofNat 3) ∧
 BoOk 0 0 0 0 (Int.ofNat 0) (Int.ofNat 5400000) (Int.ofNat 5400000) (Int.ofNat 10800000) ∧
 4 = 4 ∧
 [(((chL (Int.ofNat 2) (Int.ofNat 1) (Int.ofNat 3)).getD 3 (0, 0, 0)).fst, ((chL (Int.ofNat 2) (Int.ofNat 1) (Int.ofNat 3)).getD 3 (0, 0, 0)).snd.fst, ((chL (Int.ofNat 2) (Int.ofNat 1) (Int.ofNat 3)).getD 3 (0, 0, 0)).snd.snd),
 (((chL (Int.ofNat 2) (Int.ofNat 2) (Int.ofNat 3)).getD 1 (0, 0, 0)).fst, ((chL (Int.ofNat 2) (Int.ofNat 2) (Int.ofNat 3)).getD 1 (0, 0, 0)).snd.fst, ((chL (Int.ofNat 2) (Int.ofNat 2) (Int.ofNat 3)).getD 1 (0, 0, 0)).snd.snd),
 (((chL (Int.ofNat 2) (Int.ofNat 1) (Int.ofNat 4)).getD 2 (0, 0, 0)).fst, ((chL (Int.ofNat 2) (Int.ofNat 1) (Int.ofNat 4)).getD 2 (0, 0, 0)).snd.fst, ((chL (Int.ofNat 2) (Int.ofNat 1) (Int.ofNat 4)).getD 2 (0, 0, 0)).snd.snd),
 (((chL (Int.ofNat 2) (Int.ofNat 2) (Int.ofNat 4)).getD 0 (0, 0, 0)).fst, ((chL (Int.ofNat 2) (Int.ofNat 2) (Int.ofNat 4)).getD 0 (0, 0, 0)).snd.fst, ((chL (Int.ofNat 2) (Int.ofNat 2) (Int.ofNat 4)).getD 0 (0, 0, 0)).snd.snd)] =
 [(3, 3, 7), (3, 4, 7), (3, 3, 8), (3, 4, 8)] ∧
 Value.int IntKind.i64 0 = Value.int IntKind.i64 0 ∧ True) := by kernel_rfl
end Go.Proofs.YtjdcicjhpegphaaGreat
