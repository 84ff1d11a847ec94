/- What the law AngleDirections asks. -/
import Derived.Test.YtcejlhgjcoidpaaDoorSpecC
namespace Go.Proofs.YtcejlhgjcoidpaaDoor
open Go Go.Abs Go.RowKit
def ADir : FuncId → List (Nat × LoopBy) := fun _ => [(0, .times 5)]
theorem vc_lawDirections (a b c d t z : Int) (K : Value → Prop) : callsX Tryd.prog (Γ5) (ADir) 5 [arc a b, arc c d, .int .i16 t, .int .u32 z] K = (
 True ∧
  bcase (decide (a > b)) (K (Value.bool true))
    (bcase (decide (c > d)) (K (Value.bool true))
      (bcase (decide (a < -68719476736)) (K (Value.bool true))
        (bcase (decide (c < -68719476736)) (K (Value.bool true))
          (bcase (decide (b > 68719476736)) (K (Value.bool true))
            (bcase (decide (d > 68719476736)) (K (Value.bool true))
              (True ∧
                True ∧
                  True ∧
                    True ∧
                      True ∧
                        True ∧
                          True ∧
                            bcase
                              (er2 a b (IntKind.i64.wrap ((IntKind.i64.wrap t).tmod 1001 * 21600000))
                                  (IntKind.i64.wrap ((IntKind.i64.wrap t).tmod 1001 * 21600000))
                                  (a + IntKind.i64.wrap ((IntKind.i64.wrap t).tmod 1001 * 21600000))
                                  (b + IntKind.i64.wrap ((IntKind.i64.wrap t).tmod 1001 * 21600000)) !=
                                0)
                              (K (Value.bool false))
                              (bcase (pick (Val a b) 0 1 != 0) (K (Value.bool false))
                                (bcase
                                  (pick
                                      (Val
                                        (gate
                                          (ok2 a b (IntKind.i64.wrap ((IntKind.i64.wrap t).tmod 1001 * 21600000))
                                            (IntKind.i64.wrap ((IntKind.i64.wrap t).tmod 1001 * 21600000))
                                            (a + IntKind.i64.wrap ((IntKind.i64.wrap t).tmod 1001 * 21600000))
                                            (b + IntKind.i64.wrap ((IntKind.i64.wrap t).tmod 1001 * 21600000)))
                                          (a + IntKind.i64.wrap ((IntKind.i64.wrap t).tmod 1001 * 21600000)))
                                        (gate
                                          (ok2 a b (IntKind.i64.wrap ((IntKind.i64.wrap t).tmod 1001 * 21600000))
                                            (IntKind.i64.wrap ((IntKind.i64.wrap t).tmod 1001 * 21600000))
                                            (a + IntKind.i64.wrap ((IntKind.i64.wrap t).tmod 1001 * 21600000))
                                            (b + IntKind.i64.wrap ((IntKind.i64.wrap t).tmod 1001 * 21600000)))
                                          (b + IntKind.i64.wrap ((IntKind.i64.wrap t).tmod 1001 * 21600000))))
                                      0 1 !=
                                    0)
                                  (K (Value.bool false))
                                  (bcase (pick (two a b c d) 0 1 != 0) (K (Value.bool false))
                                    (bcase
                                      (pick
                                          (two
                                            (gate
                                              (ok2 a b (IntKind.i64.wrap ((IntKind.i64.wrap t).tmod 1001 * 21600000))
                                                (IntKind.i64.wrap ((IntKind.i64.wrap t).tmod 1001 * 21600000))
                                                (a + IntKind.i64.wrap ((IntKind.i64.wrap t).tmod 1001 * 21600000))
                                                (b + IntKind.i64.wrap ((IntKind.i64.wrap t).tmod 1001 * 21600000)))
                                              (a + IntKind.i64.wrap ((IntKind.i64.wrap t).tmod 1001 * 21600000)))
                                            (gate
                                              (ok2 a b (IntKind.i64.wrap ((IntKind.i64.wrap t).tmod 1001 * 21600000))
                                                (IntKind.i64.wrap ((IntKind.i64.wrap t).tmod 1001 * 21600000))
                                                (a + IntKind.i64.wrap ((IntKind.i64.wrap t).tmod 1001 * 21600000))
                                                (b + IntKind.i64.wrap ((IntKind.i64.wrap t).tmod 1001 * 21600000)))
                                              (b + IntKind.i64.wrap ((IntKind.i64.wrap t).tmod 1001 * 21600000)))
                                            c d)
                                          0 1 !=
                                        0)
                                      (K (Value.bool false))
                                      (bcase (pick (two c d a b) 0 1 != 0) (K (Value.bool false))
                                        (bcase
                                          (!(dLo a b ==
                                                dLo
                                                  (gate
                                                    (ok2 a b
                                                      (IntKind.i64.wrap ((IntKind.i64.wrap t).tmod 1001 * 21600000))
                                                      (IntKind.i64.wrap ((IntKind.i64.wrap t).tmod 1001 * 21600000))
                                                      (a + IntKind.i64.wrap ((IntKind.i64.wrap t).tmod 1001 * 21600000))
                                                      (b +
                                                        IntKind.i64.wrap ((IntKind.i64.wrap t).tmod 1001 * 21600000)))
                                                    (a + IntKind.i64.wrap ((IntKind.i64.wrap t).tmod 1001 * 21600000)))
                                                  (gate
                                                    (ok2 a b
                                                      (IntKind.i64.wrap ((IntKind.i64.wrap t).tmod 1001 * 21600000))
                                                      (IntKind.i64.wrap ((IntKind.i64.wrap t).tmod 1001 * 21600000))
                                                      (a + IntKind.i64.wrap ((IntKind.i64.wrap t).tmod 1001 * 21600000))
                                                      (b +
                                                        IntKind.i64.wrap ((IntKind.i64.wrap t).tmod 1001 * 21600000)))
                                                    (b +
                                                      IntKind.i64.wrap ((IntKind.i64.wrap t).tmod 1001 * 21600000))) &&
                                              (dHi a b ==
                                                  dHi
                                                    (gate
                                                      (ok2 a b
                                                        (IntKind.i64.wrap ((IntKind.i64.wrap t).tmod 1001 * 21600000))
                                                        (IntKind.i64.wrap ((IntKind.i64.wrap t).tmod 1001 * 21600000))
                                                        (a +
                                                          IntKind.i64.wrap ((IntKind.i64.wrap t).tmod 1001 * 21600000))
                                                        (b +
                                                          IntKind.i64.wrap ((IntKind.i64.wrap t).tmod 1001 * 21600000)))
                                                      (a +
                                                        IntKind.i64.wrap ((IntKind.i64.wrap t).tmod 1001 * 21600000)))
                                                    (gate
                                                      (ok2 a b
                                                        (IntKind.i64.wrap ((IntKind.i64.wrap t).tmod 1001 * 21600000))
                                                        (IntKind.i64.wrap ((IntKind.i64.wrap t).tmod 1001 * 21600000))
                                                        (a +
                                                          IntKind.i64.wrap ((IntKind.i64.wrap t).tmod 1001 * 21600000))
                                                        (b +
                                                          IntKind.i64.wrap ((IntKind.i64.wrap t).tmod 1001 * 21600000)))
                                                      (b +
                                                        IntKind.i64.wrap
                                                          ((IntKind.i64.wrap t).tmod 1001 * 21600000))) &&
                                                true)))
                                          (K (Value.bool false))
                                          (bcase
                                            (!decide (agree a b c d) ==
                                                decide
                                                  (agree
                                                    (gate
                                                      (ok2 a b
                                                        (IntKind.i64.wrap ((IntKind.i64.wrap t).tmod 1001 * 21600000))
                                                        (IntKind.i64.wrap ((IntKind.i64.wrap t).tmod 1001 * 21600000))
                                                        (a +
                                                          IntKind.i64.wrap ((IntKind.i64.wrap t).tmod 1001 * 21600000))
                                                        (b +
                                                          IntKind.i64.wrap ((IntKind.i64.wrap t).tmod 1001 * 21600000)))
                                                      (a +
                                                        IntKind.i64.wrap ((IntKind.i64.wrap t).tmod 1001 * 21600000)))
                                                    (gate
                                                      (ok2 a b
                                                        (IntKind.i64.wrap ((IntKind.i64.wrap t).tmod 1001 * 21600000))
                                                        (IntKind.i64.wrap ((IntKind.i64.wrap t).tmod 1001 * 21600000))
                                                        (a +
                                                          IntKind.i64.wrap ((IntKind.i64.wrap t).tmod 1001 * 21600000))
                                                        (b +
                                                          IntKind.i64.wrap ((IntKind.i64.wrap t).tmod 1001 * 21600000)))
                                                      (b +
                                                        IntKind.i64.wrap ((IntKind.i64.wrap t).tmod 1001 * 21600000)))
                                                    c d))
                                            (K (Value.bool false))
                                            (bcase (!decide (agree a b c d) == decide (agree c d a b))
                                              (K (Value.bool false))
                                              (bcase (IntKind.i64.wrap (IntKind.i64.wrap (b - a) + 1) == 0) False
                                                (True ∧
                                                  True ∧
                                                    bcase (pick (two a b a b) 0 1 != 0) (K (Value.bool false))
                                                      (bcase (!decide (agree a b a b)) (K (Value.bool false))
                                                        (True ∧
                                                          bcase (pick (two a b (dLo a b) (dHi a b)) 0 1 != 0)
                                                            (K (Value.bool false))
                                                            (bcase (!decide (agree a b (dLo a b) (dHi a b)))
                                                              (K (Value.bool false))
                                                              (True ∧
                                                                bcase
                                                                  (pick
                                                                      (two a b
                                                                        (IntKind.i64.wrap
                                                                          (a +
                                                                            (IntKind.i64.wrap z).tmod
                                                                              (IntKind.i64.wrap
                                                                                (IntKind.i64.wrap (b - a) + 1))))
                                                                        (IntKind.i64.wrap
                                                                          (a +
                                                                            (IntKind.i64.wrap z).tmod
                                                                              (IntKind.i64.wrap
                                                                                (IntKind.i64.wrap (b - a) + 1)))))
                                                                      0 1 !=
                                                                    0)
                                                                  (K (Value.bool false))
                                                                  (bcase
                                                                    (!decide
                                                                        (agree a b
                                                                          (IntKind.i64.wrap
                                                                            (a +
                                                                              (IntKind.i64.wrap z).tmod
                                                                                (IntKind.i64.wrap
                                                                                  (IntKind.i64.wrap (b - a) + 1))))
                                                                          (IntKind.i64.wrap
                                                                            (a +
                                                                              (IntKind.i64.wrap z).tmod
                                                                                (IntKind.i64.wrap
                                                                                  (IntKind.i64.wrap (b - a) + 1))))))
                                                                    (K (Value.bool false))
                                                                    (bcase (decide (dLo a b ≥ 0))
                                                                      (bcase (decide (dLo a b < 21600000))
                                                                        (bcase (decide (dHi a b ≥ dLo a b))
                                                                          (K
                                                                            (Value.bool
                                                                              (decide
                                                                                (IntKind.i64.wrap (dHi a b - dLo a b) ≤
                                                                                  21600000))))
                                                                          (K (Value.bool false)))
                                                                        (K (Value.bool false)))
                                                                      (K (Value.bool false))))))))))))))))))))))))) := by kernel_rfl
end Go.Proofs.YtcejlhgjcoidpaaDoor
