/- What the laws of angle ask. -/
import Derived.Test.YtcejlhgjcoidpaaDoorSpecC
namespace Go.Proofs.YtcejlhgjcoidpaaDoor
open Go Go.Abs Go.RowKit
set_option linter.unusedVariables false
set_option linter.unusedSimpArgs false
theorem vc_r5agree (a b c d : Int) (K : Value → Prop) : callsX Tryd.prog (Γ2) (AAgree) 23 [arc a b, arc c d] K = (
 Val a b ∧
  Val c d ∧
    (I64 (dLo c d + IntKind.i64.wrap (-1 * 21600000)) ∧ I64 (dHi c d + IntKind.i64.wrap (-1 * 21600000))) ∧
      True ∧
        bcase
          (decide
            (dLo a b ≤ dHi c d + IntKind.i64.wrap (-1 * 21600000) ∧
              dLo c d + IntKind.i64.wrap (-1 * 21600000) ≤ dHi a b))
          (K (Value.bool true))
          ((I64 (dLo c d + IntKind.i64.wrap (IntKind.i64.wrap (-1 + 1) * 21600000)) ∧
              I64 (dHi c d + IntKind.i64.wrap (IntKind.i64.wrap (-1 + 1) * 21600000))) ∧
            True ∧
              bcase
                (decide
                  (dLo a b ≤ dHi c d + IntKind.i64.wrap (IntKind.i64.wrap (-1 + 1) * 21600000) ∧
                    dLo c d + IntKind.i64.wrap (IntKind.i64.wrap (-1 + 1) * 21600000) ≤ dHi a b))
                (K (Value.bool true))
                ((I64 (dLo c d + IntKind.i64.wrap (IntKind.i64.wrap (IntKind.i64.wrap (-1 + 1) + 1) * 21600000)) ∧
                    I64 (dHi c d + IntKind.i64.wrap (IntKind.i64.wrap (IntKind.i64.wrap (-1 + 1) + 1) * 21600000))) ∧
                  True ∧
                    bcase
                      (decide
                        (dLo a b ≤
                            dHi c d + IntKind.i64.wrap (IntKind.i64.wrap (IntKind.i64.wrap (-1 + 1) + 1) * 21600000) ∧
                          dLo c d + IntKind.i64.wrap (IntKind.i64.wrap (IntKind.i64.wrap (-1 + 1) + 1) * 21600000) ≤
                            dHi a b))
                      (K (Value.bool true)) (K (Value.bool false))))) := by kernel_rfl
theorem vc_text (n : Int) (K : Value → Prop) : callsX Tryd.prog (Γ3) (noAnn) 39 [num n] K = (
 True ∧
  bcase (!decide (Fit n)) (K (Value.tuple #[Value.string (ByteArray.mk #[]), Value.int IntKind.i64 5]))
    (Fit n ∧ K (Value.tuple #[Value.string (textB n), Value.int IntKind.i64 0]))) := by kernel_rfl
theorem vc_print (a b : Int) (K : Value → Prop) : callsX Tryd.prog (Γ3) (noAnn) 43 [arc a b] K = (
 True ∧
  bcase (!decide (Val a b)) (K (Value.tuple #[Value.string (ByteArray.mk #[]), Value.int IntKind.i64 1]))
    ((I64 (IntKind.i64.wrap (a + 50)) ∧ Den 100) ∧
      (I64 (IntKind.i64.wrap (b + 50)) ∧ Den 100) ∧
        True ∧
          bcase (!decide (Fit (IntKind.i64.wrap (IntKind.i64.wrap (a + 50) / 100 * 100))))
            (K (Value.tuple #[Value.string (ByteArray.mk #[]), Value.int IntKind.i64 5]))
            (True ∧
              bcase (!decide (Fit (IntKind.i64.wrap (IntKind.i64.wrap (b + 50) / 100 * 100))))
                (K (Value.tuple #[Value.string (ByteArray.mk #[]), Value.int IntKind.i64 5]))
                (bcase
                  (IntKind.i64.wrap (IntKind.i64.wrap (a + 50) / 100 * 100) ==
                    IntKind.i64.wrap (IntKind.i64.wrap (b + 50) / 100 * 100))
                  (Fit (IntKind.i64.wrap (IntKind.i64.wrap (a + 50) / 100 * 100)) ∧
                    K
                      (Value.tuple
                        #[Value.string (textB (IntKind.i64.wrap (IntKind.i64.wrap (a + 50) / 100 * 100))),
                          Value.int IntKind.i64 0]))
                  (Fit (IntKind.i64.wrap (IntKind.i64.wrap (a + 50) / 100 * 100)) ∧
                    bcase
                      (tooLong (textB (IntKind.i64.wrap (IntKind.i64.wrap (a + 50) / 100 * 100)))
                        (ByteArray.mk #[32, 46, 46, 32]))
                      False
                      (Fit (IntKind.i64.wrap (IntKind.i64.wrap (b + 50) / 100 * 100)) ∧
                        bcase
                          (tooLong
                            (textB (IntKind.i64.wrap (IntKind.i64.wrap (a + 50) / 100 * 100)) ++
                              ByteArray.mk #[32, 46, 46, 32])
                            (textB (IntKind.i64.wrap (IntKind.i64.wrap (b + 50) / 100 * 100))))
                          False
                          (K
                            (Value.tuple
                              #[Value.string
                                  (textB (IntKind.i64.wrap (IntKind.i64.wrap (a + 50) / 100 * 100)) ++
                                      ByteArray.mk #[32, 46, 46, 32] ++
                                    textB (IntKind.i64.wrap (IntKind.i64.wrap (b + 50) / 100 * 100))),
                                Value.int IntKind.i64 0])))))))) := by kernel_rfl
theorem vc_lawDirections (a b c d t z : Int) (K : Value → Prop) : callsX Tryd.prog (Γ5) (noAnn) 5 [arc a b, arc c d, .int .i16 t, .int .u32 z] K = (
 True ∧
  bcase (decide (a > b)) (K (Value.bool true))
    (bcase (decide (c > d)) (K (Value.bool true))
      (bcase (decide (a < -68719476736)) (K (Value.bool true))
        (bcase (decide (c < -68719476736)) (K (Value.bool true))
          (bcase (decide (b > 68719476736)) (K (Value.bool true))
            (bcase (decide (d > 68719476736)) (K (Value.bool true))
              (True ∧
                True ∧
                  True ∧
                    True ∧
                      True ∧
                        True ∧
                          True ∧
                            bcase
                              (er2 a b (IntKind.i64.wrap ((IntKind.i64.wrap t).tmod 1001 * 21600000))
                                  (IntKind.i64.wrap ((IntKind.i64.wrap t).tmod 1001 * 21600000))
                                  (a + IntKind.i64.wrap ((IntKind.i64.wrap t).tmod 1001 * 21600000))
                                  (b + IntKind.i64.wrap ((IntKind.i64.wrap t).tmod 1001 * 21600000)) !=
                                0)
                              (K (Value.bool false))
                              (bcase (pick (Val a b) 0 1 != 0) (K (Value.bool false))
                                (bcase
                                  (pick
                                      (Val
                                        (gate
                                          (ok2 a b (IntKind.i64.wrap ((IntKind.i64.wrap t).tmod 1001 * 21600000))
                                            (IntKind.i64.wrap ((IntKind.i64.wrap t).tmod 1001 * 21600000))
                                            (a + IntKind.i64.wrap ((IntKind.i64.wrap t).tmod 1001 * 21600000))
                                            (b + IntKind.i64.wrap ((IntKind.i64.wrap t).tmod 1001 * 21600000)))
                                          (a + IntKind.i64.wrap ((IntKind.i64.wrap t).tmod 1001 * 21600000)))
                                        (gate
                                          (ok2 a b (IntKind.i64.wrap ((IntKind.i64.wrap t).tmod 1001 * 21600000))
                                            (IntKind.i64.wrap ((IntKind.i64.wrap t).tmod 1001 * 21600000))
                                            (a + IntKind.i64.wrap ((IntKind.i64.wrap t).tmod 1001 * 21600000))
                                            (b + IntKind.i64.wrap ((IntKind.i64.wrap t).tmod 1001 * 21600000)))
                                          (b + IntKind.i64.wrap ((IntKind.i64.wrap t).tmod 1001 * 21600000))))
                                      0 1 !=
                                    0)
                                  (K (Value.bool false))
                                  (bcase (pick (two a b c d) 0 1 != 0) (K (Value.bool false))
                                    (bcase
                                      (pick
                                          (two
                                            (gate
                                              (ok2 a b (IntKind.i64.wrap ((IntKind.i64.wrap t).tmod 1001 * 21600000))
                                                (IntKind.i64.wrap ((IntKind.i64.wrap t).tmod 1001 * 21600000))
                                                (a + IntKind.i64.wrap ((IntKind.i64.wrap t).tmod 1001 * 21600000))
                                                (b + IntKind.i64.wrap ((IntKind.i64.wrap t).tmod 1001 * 21600000)))
                                              (a + IntKind.i64.wrap ((IntKind.i64.wrap t).tmod 1001 * 21600000)))
                                            (gate
                                              (ok2 a b (IntKind.i64.wrap ((IntKind.i64.wrap t).tmod 1001 * 21600000))
                                                (IntKind.i64.wrap ((IntKind.i64.wrap t).tmod 1001 * 21600000))
                                                (a + IntKind.i64.wrap ((IntKind.i64.wrap t).tmod 1001 * 21600000))
                                                (b + IntKind.i64.wrap ((IntKind.i64.wrap t).tmod 1001 * 21600000)))
                                              (b + IntKind.i64.wrap ((IntKind.i64.wrap t).tmod 1001 * 21600000)))
                                            c d)
                                          0 1 !=
                                        0)
                                      (K (Value.bool false))
                                      (bcase (pick (two c d a b) 0 1 != 0) (K (Value.bool false))
                                        (bcase
                                          (!(dLo a b ==
                                                dLo
                                                  (gate
                                                    (ok2 a b
                                                      (IntKind.i64.wrap ((IntKind.i64.wrap t).tmod 1001 * 21600000))
                                                      (IntKind.i64.wrap ((IntKind.i64.wrap t).tmod 1001 * 21600000))
                                                      (a + IntKind.i64.wrap ((IntKind.i64.wrap t).tmod 1001 * 21600000))
                                                      (b +
                                                        IntKind.i64.wrap ((IntKind.i64.wrap t).tmod 1001 * 21600000)))
                                                    (a + IntKind.i64.wrap ((IntKind.i64.wrap t).tmod 1001 * 21600000)))
                                                  (gate
                                                    (ok2 a b
                                                      (IntKind.i64.wrap ((IntKind.i64.wrap t).tmod 1001 * 21600000))
                                                      (IntKind.i64.wrap ((IntKind.i64.wrap t).tmod 1001 * 21600000))
                                                      (a + IntKind.i64.wrap ((IntKind.i64.wrap t).tmod 1001 * 21600000))
                                                      (b +
                                                        IntKind.i64.wrap ((IntKind.i64.wrap t).tmod 1001 * 21600000)))
                                                    (b +
                                                      IntKind.i64.wrap ((IntKind.i64.wrap t).tmod 1001 * 21600000))) &&
                                              (dHi a b ==
                                                  dHi
                                                    (gate
                                                      (ok2 a b
                                                        (IntKind.i64.wrap ((IntKind.i64.wrap t).tmod 1001 * 21600000))
                                                        (IntKind.i64.wrap ((IntKind.i64.wrap t).tmod 1001 * 21600000))
                                                        (a +
                                                          IntKind.i64.wrap ((IntKind.i64.wrap t).tmod 1001 * 21600000))
                                                        (b +
                                                          IntKind.i64.wrap ((IntKind.i64.wrap t).tmod 1001 * 21600000)))
                                                      (a +
                                                        IntKind.i64.wrap ((IntKind.i64.wrap t).tmod 1001 * 21600000)))
                                                    (gate
                                                      (ok2 a b
                                                        (IntKind.i64.wrap ((IntKind.i64.wrap t).tmod 1001 * 21600000))
                                                        (IntKind.i64.wrap ((IntKind.i64.wrap t).tmod 1001 * 21600000))
                                                        (a +
                                                          IntKind.i64.wrap ((IntKind.i64.wrap t).tmod 1001 * 21600000))
                                                        (b +
                                                          IntKind.i64.wrap ((IntKind.i64.wrap t).tmod 1001 * 21600000)))
                                                      (b +
                                                        IntKind.i64.wrap
                                                          ((IntKind.i64.wrap t).tmod 1001 * 21600000))) &&
                                                true)))
                                          (K (Value.bool false))
                                          (bcase
                                            (!decide (agree a b c d) ==
                                                decide
                                                  (agree
                                                    (gate
                                                      (ok2 a b
                                                        (IntKind.i64.wrap ((IntKind.i64.wrap t).tmod 1001 * 21600000))
                                                        (IntKind.i64.wrap ((IntKind.i64.wrap t).tmod 1001 * 21600000))
                                                        (a +
                                                          IntKind.i64.wrap ((IntKind.i64.wrap t).tmod 1001 * 21600000))
                                                        (b +
                                                          IntKind.i64.wrap ((IntKind.i64.wrap t).tmod 1001 * 21600000)))
                                                      (a +
                                                        IntKind.i64.wrap ((IntKind.i64.wrap t).tmod 1001 * 21600000)))
                                                    (gate
                                                      (ok2 a b
                                                        (IntKind.i64.wrap ((IntKind.i64.wrap t).tmod 1001 * 21600000))
                                                        (IntKind.i64.wrap ((IntKind.i64.wrap t).tmod 1001 * 21600000))
                                                        (a +
                                                          IntKind.i64.wrap ((IntKind.i64.wrap t).tmod 1001 * 21600000))
                                                        (b +
                                                          IntKind.i64.wrap ((IntKind.i64.wrap t).tmod 1001 * 21600000)))
                                                      (b +
                                                        IntKind.i64.wrap ((IntKind.i64.wrap t).tmod 1001 * 21600000)))
                                                    c d))
                                            (K (Value.bool false))
                                            (bcase (!decide (agree a b c d) == decide (agree c d a b))
                                              (K (Value.bool false))
                                              (bcase (IntKind.i64.wrap (IntKind.i64.wrap (b - a) + 1) == 0) False
                                                (True ∧ False))))))))))))))))) := by kernel_rfl
theorem vc_awake  (K : Value → Prop) : callsX Tryd.prog (Γ4) (noAnn) 11 [] K = (
 True ∧
  True ∧
    True ∧
      True ∧
        True ∧
          True ∧
            K (Value.bool (gate (okT 1 2 1 3) (tLo 1 2 1 3) == 0 && (gate (okT 1 2 1 3) (tHi 1 2 1 3) == 1 && true)))) := by kernel_rfl
theorem vc_same (x y e u v : Int) (K : Value → Prop) : callsX Tryd.prog (Γ4) (noAnn) 31 [arc x y, num e, arc u v] K = (
 True ∧
  bcase (!decide (Val u v)) (bcase (e == 5) (K (Value.bool (x == 0 && (y == 0 && true)))) (K (Value.bool false)))
    (bcase (e == 0) (K (Value.bool (x == u && (y == v && true)))) (K (Value.bool false)))) := by kernel_rfl
theorem vc_lawWraps (n a b c d : Int) (K : Value → Prop) : callsX Tryd.prog (Γ5) (noAnn) 3 [num n, arc a b, arc c d] K = (
 True ∧
  True ∧
    True ∧
      True ∧
        True ∧
          bcase (!decide (Val a b) == decide (Val a b)) (K (Value.bool false))
            (True ∧
              True ∧
                bcase (decide (Val a b))
                  (True ∧
                    bcase (decide (Val c d))
                      (True ∧
                        bcase (!decide (Val a b ∧ Val c d ∧ c ≤ a ∧ b ≤ d) == decide (c ≤ a ∧ b ≤ d))
                          (K (Value.bool false))
                          (True ∧
                            bcase (n % 21600000 != n % 21600000) (K (Value.bool false))
                              (True ∧
                                bcase (signed n != signed n) (K (Value.bool false))
                                  (bcase (decide (n % 21600000 < 0)) (K (Value.bool false))
                                    (bcase (decide (n % 21600000 ≥ 21600000)) (K (Value.bool false))
                                      (bcase (decide (signed n < -10800000)) (K (Value.bool false))
                                        (bcase (decide (signed n ≥ 10800000)) (K (Value.bool false))
                                          (bcase (signed n == n % 21600000) (K (Value.bool true))
                                            (K
                                              (Value.bool
                                                (signed n == IntKind.i64.wrap (n % 21600000 - 21600000))))))))))))
                      (bcase (!decide (Val a b ∧ Val c d ∧ c ≤ a ∧ b ≤ d) == false) (K (Value.bool false))
                        (True ∧
                          bcase (n % 21600000 != n % 21600000) (K (Value.bool false))
                            (True ∧
                              bcase (signed n != signed n) (K (Value.bool false))
                                (bcase (decide (n % 21600000 < 0)) (K (Value.bool false))
                                  (bcase (decide (n % 21600000 ≥ 21600000)) (K (Value.bool false))
                                    (bcase (decide (signed n < -10800000)) (K (Value.bool false))
                                      (bcase (decide (signed n ≥ 10800000)) (K (Value.bool false))
                                        (bcase (signed n == n % 21600000) (K (Value.bool true))
                                          (K
                                            (Value.bool
                                              (signed n == IntKind.i64.wrap (n % 21600000 - 21600000)))))))))))))
                  (bcase (!decide (Val a b ∧ Val c d ∧ c ≤ a ∧ b ≤ d) == false) (K (Value.bool false))
                    (True ∧
                      bcase (n % 21600000 != n % 21600000) (K (Value.bool false))
                        (True ∧
                          bcase (signed n != signed n) (K (Value.bool false))
                            (bcase (decide (n % 21600000 < 0)) (K (Value.bool false))
                              (bcase (decide (n % 21600000 ≥ 21600000)) (K (Value.bool false))
                                (bcase (decide (signed n < -10800000)) (K (Value.bool false))
                                  (bcase (decide (signed n ≥ 10800000)) (K (Value.bool false))
                                    (bcase (signed n == n % 21600000) (K (Value.bool true))
                                      (K (Value.bool (signed n == IntKind.i64.wrap (n % 21600000 - 21600000)))))))))))))) := by kernel_rfl
theorem vc_lawTurns (a b c d : Int) (K : Value → Prop) : callsX Tryd.prog (Γ5) (noAnn) 4 [arc a b, arc c d] K = (
 True ∧
  True ∧
    True ∧
      True ∧
        bcase (!decide (Val a b))
          (bcase (dLo a b == 0 && (dHi a b == 0 && true))
            (bcase (pick (Val a b) 0 1 == 1)
              (bcase (!decide (agree a b c d)) (K (Value.bool (pick (two a b c d) 0 1 == 1))) (K (Value.bool false)))
              (K (Value.bool false)))
            (K (Value.bool false)))
          (bcase (pick (Val a b) 0 1 != 0) (K (Value.bool false))
            (Val a b ∧
              bcase (!(dLo a b == dLo a b && (dHi a b == dHi a b && true))) (K (Value.bool false))
                (True ∧
                  bcase (!decide (Val c d))
                    (bcase (!decide (agree a b c d)) (K (Value.bool (pick (two a b c d) 0 1 == 1)))
                      (K (Value.bool false)))
                    (bcase (pick (two a b c d) 0 1 == 0)
                      ((Val a b ∧ Val c d) ∧ K (Value.bool (decide (agree a b c d) == decide (agree a b c d))))
                      (K (Value.bool false))))))) := by kernel_rfl
theorem vc_lawSums (a b c d m e : Int) (K : Value → Prop) : callsX Tryd.prog (Γ5) (noAnn) 6 [arc a b, arc c d, num m, num e] K = (
 True ∧
  True ∧
    True ∧
      True ∧
        True ∧
          True ∧
            bcase (!decide (Val a b))
              (bcase
                (gate (ok2 a b c d (a + c) (b + d)) (a + c) == 0 &&
                  (gate (ok2 a b c d (a + c) (b + d)) (b + d) == 0 && true))
                (bcase
                  (gate (ok2 a b c d (a - d) (b - c)) (a - d) == 0 &&
                    (gate (ok2 a b c d (a - d) (b - c)) (b - c) == 0 && true))
                  (bcase (gate (Val a b) (-b) == 0 && (gate (Val a b) (-a) == 0 && true))
                    (bcase (gate (okT a b m e) (tLo a b m e) == 0 && (gate (okT a b m e) (tHi a b m e) == 0 && true))
                      (bcase (er2 a b c d (a + c) (b + d) == 1)
                        (bcase (er2 a b c d (a - d) (b - c) == 1)
                          (bcase (pick (Val a b) 0 1 == 1) (K (Value.bool (erT a b m e == 1))) (K (Value.bool false)))
                          (K (Value.bool false)))
                        (K (Value.bool false)))
                      (K (Value.bool false)))
                    (K (Value.bool false)))
                  (K (Value.bool false)))
                (K (Value.bool false)))
              (bcase (pick (Val a b) 0 1 != 0) (K (Value.bool false))
                ((I64 (-a) ∧ I64 (-b)) ∧
                  bcase (!(gate (Val a b) (-b) == -b && (gate (Val a b) (-a) == -a && true))) (K (Value.bool false))
                    (bcase (decide (m < -1048576))
                      (bcase (erT a b m e != 2) (K (Value.bool false))
                        (bcase
                          (!(gate (okT a b m e) (tLo a b m e) == 0 && (gate (okT a b m e) (tHi a b m e) == 0 && true)))
                          (K (Value.bool false))
                          (True ∧
                            bcase (!decide (Val c d))
                              (bcase
                                (gate (ok2 a b c d (a + c) (b + d)) (a + c) == 0 &&
                                  (gate (ok2 a b c d (a + c) (b + d)) (b + d) == 0 && true))
                                (bcase
                                  (gate (ok2 a b c d (a - d) (b - c)) (a - d) == 0 &&
                                    (gate (ok2 a b c d (a - d) (b - c)) (b - c) == 0 && true))
                                  (bcase (er2 a b c d (a + c) (b + d) == 1)
                                    (K (Value.bool (er2 a b c d (a - d) (b - c) == 1))) (K (Value.bool false)))
                                  (K (Value.bool false)))
                                (K (Value.bool false)))
                              ((I64 (a + c) ∧ I64 (b + d)) ∧
                                True ∧
                                  bcase
                                    (sameB (gate (ok2 a b c d (a + c) (b + d)) (a + c))
                                      (gate (ok2 a b c d (a + c) (b + d)) (b + d)) (er2 a b c d (a + c) (b + d)) (a + c)
                                      (b + d))
                                    ((I64 (a - d) ∧ I64 (b - c)) ∧
                                      True ∧
                                        K
                                          (Value.bool
                                            (sameB (gate (ok2 a b c d (a - d) (b - c)) (a - d))
                                              (gate (ok2 a b c d (a - d) (b - c)) (b - c)) (er2 a b c d (a - d) (b - c))
                                              (a - d) (b - c))))
                                    (K (Value.bool false))))))
                      (bcase (decide (m > 1048576))
                        (bcase (erT a b m e != 2) (K (Value.bool false))
                          (bcase
                            (!(gate (okT a b m e) (tLo a b m e) == 0 &&
                                (gate (okT a b m e) (tHi a b m e) == 0 && true)))
                            (K (Value.bool false))
                            (True ∧
                              bcase (!decide (Val c d))
                                (bcase
                                  (gate (ok2 a b c d (a + c) (b + d)) (a + c) == 0 &&
                                    (gate (ok2 a b c d (a + c) (b + d)) (b + d) == 0 && true))
                                  (bcase
                                    (gate (ok2 a b c d (a - d) (b - c)) (a - d) == 0 &&
                                      (gate (ok2 a b c d (a - d) (b - c)) (b - c) == 0 && true))
                                    (bcase (er2 a b c d (a + c) (b + d) == 1)
                                      (K (Value.bool (er2 a b c d (a - d) (b - c) == 1))) (K (Value.bool false)))
                                    (K (Value.bool false)))
                                  (K (Value.bool false)))
                                ((I64 (a + c) ∧ I64 (b + d)) ∧
                                  True ∧
                                    bcase
                                      (sameB (gate (ok2 a b c d (a + c) (b + d)) (a + c))
                                        (gate (ok2 a b c d (a + c) (b + d)) (b + d)) (er2 a b c d (a + c) (b + d))
                                        (a + c) (b + d))
                                      ((I64 (a - d) ∧ I64 (b - c)) ∧
                                        True ∧
                                          K
                                            (Value.bool
                                              (sameB (gate (ok2 a b c d (a - d) (b - c)) (a - d))
                                                (gate (ok2 a b c d (a - d) (b - c)) (b - c))
                                                (er2 a b c d (a - d) (b - c)) (a - d) (b - c))))
                                      (K (Value.bool false))))))
                        (bcase (decide (e < 1))
                          (bcase (erT a b m e != 2) (K (Value.bool false))
                            (bcase
                              (!(gate (okT a b m e) (tLo a b m e) == 0 &&
                                  (gate (okT a b m e) (tHi a b m e) == 0 && true)))
                              (K (Value.bool false))
                              (True ∧
                                bcase (!decide (Val c d))
                                  (bcase
                                    (gate (ok2 a b c d (a + c) (b + d)) (a + c) == 0 &&
                                      (gate (ok2 a b c d (a + c) (b + d)) (b + d) == 0 && true))
                                    (bcase
                                      (gate (ok2 a b c d (a - d) (b - c)) (a - d) == 0 &&
                                        (gate (ok2 a b c d (a - d) (b - c)) (b - c) == 0 && true))
                                      (bcase (er2 a b c d (a + c) (b + d) == 1)
                                        (K (Value.bool (er2 a b c d (a - d) (b - c) == 1))) (K (Value.bool false)))
                                      (K (Value.bool false)))
                                    (K (Value.bool false)))
                                  ((I64 (a + c) ∧ I64 (b + d)) ∧
                                    True ∧
                                      bcase
                                        (sameB (gate (ok2 a b c d (a + c) (b + d)) (a + c))
                                          (gate (ok2 a b c d (a + c) (b + d)) (b + d)) (er2 a b c d (a + c) (b + d))
                                          (a + c) (b + d))
                                        ((I64 (a - d) ∧ I64 (b - c)) ∧
                                          True ∧
                                            K
                                              (Value.bool
                                                (sameB (gate (ok2 a b c d (a - d) (b - c)) (a - d))
                                                  (gate (ok2 a b c d (a - d) (b - c)) (b - c))
                                                  (er2 a b c d (a - d) (b - c)) (a - d) (b - c))))
                                        (K (Value.bool false))))))
                          (bcase (decide (e > 1048576))
                            (bcase (erT a b m e != 2) (K (Value.bool false))
                              (bcase
                                (!(gate (okT a b m e) (tLo a b m e) == 0 &&
                                    (gate (okT a b m e) (tHi a b m e) == 0 && true)))
                                (K (Value.bool false))
                                (True ∧
                                  bcase (!decide (Val c d))
                                    (bcase
                                      (gate (ok2 a b c d (a + c) (b + d)) (a + c) == 0 &&
                                        (gate (ok2 a b c d (a + c) (b + d)) (b + d) == 0 && true))
                                      (bcase
                                        (gate (ok2 a b c d (a - d) (b - c)) (a - d) == 0 &&
                                          (gate (ok2 a b c d (a - d) (b - c)) (b - c) == 0 && true))
                                        (bcase (er2 a b c d (a + c) (b + d) == 1)
                                          (K (Value.bool (er2 a b c d (a - d) (b - c) == 1))) (K (Value.bool false)))
                                        (K (Value.bool false)))
                                      (K (Value.bool false)))
                                    ((I64 (a + c) ∧ I64 (b + d)) ∧
                                      True ∧
                                        bcase
                                          (sameB (gate (ok2 a b c d (a + c) (b + d)) (a + c))
                                            (gate (ok2 a b c d (a + c) (b + d)) (b + d)) (er2 a b c d (a + c) (b + d))
                                            (a + c) (b + d))
                                          ((I64 (a - d) ∧ I64 (b - c)) ∧
                                            True ∧
                                              K
                                                (Value.bool
                                                  (sameB (gate (ok2 a b c d (a - d) (b - c)) (a - d))
                                                    (gate (ok2 a b c d (a - d) (b - c)) (b - c))
                                                    (er2 a b c d (a - d) (b - c)) (a - d) (b - c))))
                                          (K (Value.bool false))))))
                            ((Val a b ∧ Frac m e) ∧
                              True ∧
                                bcase (!decide (Val (tLo a b m e) (tHi a b m e)))
                                  (bcase (erT a b m e != 5) (K (Value.bool false))
                                    (bcase
                                      (!(gate (okT a b m e) (tLo a b m e) == 0 &&
                                          (gate (okT a b m e) (tHi a b m e) == 0 && true)))
                                      (K (Value.bool false))
                                      (True ∧
                                        bcase (!decide (Val c d))
                                          (bcase
                                            (gate (ok2 a b c d (a + c) (b + d)) (a + c) == 0 &&
                                              (gate (ok2 a b c d (a + c) (b + d)) (b + d) == 0 && true))
                                            (bcase
                                              (gate (ok2 a b c d (a - d) (b - c)) (a - d) == 0 &&
                                                (gate (ok2 a b c d (a - d) (b - c)) (b - c) == 0 && true))
                                              (bcase (er2 a b c d (a + c) (b + d) == 1)
                                                (K (Value.bool (er2 a b c d (a - d) (b - c) == 1)))
                                                (K (Value.bool false)))
                                              (K (Value.bool false)))
                                            (K (Value.bool false)))
                                          ((I64 (a + c) ∧ I64 (b + d)) ∧
                                            True ∧
                                              bcase
                                                (sameB (gate (ok2 a b c d (a + c) (b + d)) (a + c))
                                                  (gate (ok2 a b c d (a + c) (b + d)) (b + d))
                                                  (er2 a b c d (a + c) (b + d)) (a + c) (b + d))
                                                ((I64 (a - d) ∧ I64 (b - c)) ∧
                                                  True ∧
                                                    K
                                                      (Value.bool
                                                        (sameB (gate (ok2 a b c d (a - d) (b - c)) (a - d))
                                                          (gate (ok2 a b c d (a - d) (b - c)) (b - c))
                                                          (er2 a b c d (a - d) (b - c)) (a - d) (b - c))))
                                                (K (Value.bool false))))))
                                  (bcase (erT a b m e != 0) (K (Value.bool false))
                                    (bcase
                                      (!(gate (okT a b m e) (tLo a b m e) == tLo a b m e &&
                                          (gate (okT a b m e) (tHi a b m e) == tHi a b m e && true)))
                                      (K (Value.bool false))
                                      (True ∧
                                        bcase (!decide (Val c d))
                                          (bcase
                                            (gate (ok2 a b c d (a + c) (b + d)) (a + c) == 0 &&
                                              (gate (ok2 a b c d (a + c) (b + d)) (b + d) == 0 && true))
                                            (bcase
                                              (gate (ok2 a b c d (a - d) (b - c)) (a - d) == 0 &&
                                                (gate (ok2 a b c d (a - d) (b - c)) (b - c) == 0 && true))
                                              (bcase (er2 a b c d (a + c) (b + d) == 1)
                                                (K (Value.bool (er2 a b c d (a - d) (b - c) == 1)))
                                                (K (Value.bool false)))
                                              (K (Value.bool false)))
                                            (K (Value.bool false)))
                                          ((I64 (a + c) ∧ I64 (b + d)) ∧
                                            True ∧
                                              bcase
                                                (sameB (gate (ok2 a b c d (a + c) (b + d)) (a + c))
                                                  (gate (ok2 a b c d (a + c) (b + d)) (b + d))
                                                  (er2 a b c d (a + c) (b + d)) (a + c) (b + d))
                                                ((I64 (a - d) ∧ I64 (b - c)) ∧
                                                  True ∧
                                                    K
                                                      (Value.bool
                                                        (sameB (gate (ok2 a b c d (a - d) (b - c)) (a - d))
                                                          (gate (ok2 a b c d (a - d) (b - c)) (b - c))
                                                          (er2 a b c d (a - d) (b - c)) (a - d) (b - c))))
                                                (K (Value.bool false)))))))))))))) := by kernel_rfl
theorem vc_lawMeets (a b c d : Int) (K : Value → Prop) : callsX Tryd.prog (Γ5) (noAnn) 7 [arc a b, arc c d] K = (
 True ∧
  True ∧
    True ∧
      True ∧
        bcase (!decide (Val a b))
          (bcase (gate (two a b c d) (min a c) == 0 && (gate (two a b c d) (max b d) == 0 && true))
            (bcase (gate (meets a b c d) (max a c) == 0 && (gate (meets a b c d) (min b d) == 0 && true))
              (bcase (pick (two a b c d) 0 1 == 1)
                (K (Value.bool (pick (two a b c d) (pick (max a c ≤ min b d) 0 23) 1 == 1))) (K (Value.bool false)))
              (K (Value.bool false)))
            (K (Value.bool false)))
          (True ∧
            bcase (!decide (Val c d))
              (bcase (gate (two a b c d) (min a c) == 0 && (gate (two a b c d) (max b d) == 0 && true))
                (bcase (gate (meets a b c d) (max a c) == 0 && (gate (meets a b c d) (min b d) == 0 && true))
                  (bcase (pick (two a b c d) 0 1 == 1)
                    (K (Value.bool (pick (two a b c d) (pick (max a c ≤ min b d) 0 23) 1 == 1))) (K (Value.bool false)))
                  (K (Value.bool false)))
                (K (Value.bool false)))
              (bcase (pick (two a b c d) 0 1 != 0) (K (Value.bool false))
                (True ∧
                  bcase
                    (!(gate (two a b c d) (min a c) == min a c && (gate (two a b c d) (max b d) == max b d && true)))
                    (K (Value.bool false))
                    (True ∧
                      bcase
                        (!decide
                            (Val a b ∧
                              Val (gate (two a b c d) (min a c)) (gate (two a b c d) (max b d)) ∧
                                gate (two a b c d) (min a c) ≤ a ∧ b ≤ gate (two a b c d) (max b d)))
                        (K (Value.bool false))
                        (True ∧
                          bcase
                            (!decide
                                (Val c d ∧
                                  Val (gate (two a b c d) (min a c)) (gate (two a b c d) (max b d)) ∧
                                    gate (two a b c d) (min a c) ≤ c ∧ d ≤ gate (two a b c d) (max b d)))
                            (K (Value.bool false))
                            (True ∧
                              bcase (!decide (a ≤ d ∧ c ≤ b))
                                (bcase (pick (two a b c d) (pick (max a c ≤ min b d) 0 23) 1 == 23)
                                  (K
                                    (Value.bool
                                      (gate (meets a b c d) (max a c) == 0 &&
                                        (gate (meets a b c d) (min b d) == 0 && true))))
                                  (K (Value.bool false)))
                                (bcase (pick (two a b c d) (pick (max a c ≤ min b d) 0 23) 1 == 0)
                                  (True ∧
                                    bcase
                                      (gate (meets a b c d) (max a c) == max a c &&
                                        (gate (meets a b c d) (min b d) == min b d && true))
                                      (True ∧
                                        bcase
                                          (decide
                                            (Val (gate (meets a b c d) (max a c)) (gate (meets a b c d) (min b d)) ∧
                                              Val a b ∧
                                                a ≤ gate (meets a b c d) (max a c) ∧
                                                  gate (meets a b c d) (min b d) ≤ b))
                                          (True ∧
                                            K
                                              (Value.bool
                                                (decide
                                                  (Val (gate (meets a b c d) (max a c))
                                                      (gate (meets a b c d) (min b d)) ∧
                                                    Val c d ∧
                                                      c ≤ gate (meets a b c d) (max a c) ∧
                                                        gate (meets a b c d) (min b d) ≤ d))))
                                          (K (Value.bool false)))
                                      (K (Value.bool false)))
                                  (K (Value.bool false)))))))))) := by kernel_rfl
theorem vc_lawUndoes (a b c d n : Int) (K : Value → Prop) : callsX Tryd.prog (Γ5) (noAnn) 8 [arc a b, arc c d, .int .u16 n] K = (
 True ∧
  bcase (decide (a > b)) (K (Value.bool true))
    (bcase (decide (c > d)) (K (Value.bool true))
      (bcase (decide (a < -274877906944)) (K (Value.bool true))
        (bcase (decide (c < -274877906944)) (K (Value.bool true))
          (bcase (decide (b > 274877906944)) (K (Value.bool true))
            (bcase (decide (d > 274877906944)) (K (Value.bool true))
              (True ∧
                True ∧
                  True ∧
                    True ∧
                      True ∧
                        True ∧
                          bcase (er2 a b c d (a + c) (b + d) == 0)
                            (bcase
                              (er2 (gate (ok2 a b c d (a + c) (b + d)) (a + c))
                                  (gate (ok2 a b c d (a + c) (b + d)) (b + d)) c d
                                  (gate (ok2 a b c d (a + c) (b + d)) (a + c) - d)
                                  (gate (ok2 a b c d (a + c) (b + d)) (b + d) - c) ==
                                0)
                              (bcase (pick (Val a b) 0 1 == 0)
                                (bcase (pick (Val (gate (Val a b) (-b)) (gate (Val a b) (-a))) 0 1 == 0)
                                  (bcase (erT a b 1 (IntKind.i64.wrap (1 + IntKind.i64.wrap n)) == 0)
                                    (bcase
                                      (erT
                                          (gate (okT a b 1 (IntKind.i64.wrap (1 + IntKind.i64.wrap n)))
                                            (tLo a b 1 (IntKind.i64.wrap (1 + IntKind.i64.wrap n))))
                                          (gate (okT a b 1 (IntKind.i64.wrap (1 + IntKind.i64.wrap n)))
                                            (tHi a b 1 (IntKind.i64.wrap (1 + IntKind.i64.wrap n))))
                                          (IntKind.i64.wrap (1 + IntKind.i64.wrap n)) 1 ==
                                        0)
                                      (True ∧
                                        bcase
                                          (decide
                                            (Val a b ∧
                                              Val
                                                  (gate
                                                    (ok2 (gate (ok2 a b c d (a + c) (b + d)) (a + c))
                                                      (gate (ok2 a b c d (a + c) (b + d)) (b + d)) c d
                                                      (gate (ok2 a b c d (a + c) (b + d)) (a + c) - d)
                                                      (gate (ok2 a b c d (a + c) (b + d)) (b + d) - c))
                                                    (gate (ok2 a b c d (a + c) (b + d)) (a + c) - d))
                                                  (gate
                                                    (ok2 (gate (ok2 a b c d (a + c) (b + d)) (a + c))
                                                      (gate (ok2 a b c d (a + c) (b + d)) (b + d)) c d
                                                      (gate (ok2 a b c d (a + c) (b + d)) (a + c) - d)
                                                      (gate (ok2 a b c d (a + c) (b + d)) (b + d) - c))
                                                    (gate (ok2 a b c d (a + c) (b + d)) (b + d) - c)) ∧
                                                gate
                                                      (ok2 (gate (ok2 a b c d (a + c) (b + d)) (a + c))
                                                        (gate (ok2 a b c d (a + c) (b + d)) (b + d)) c d
                                                        (gate (ok2 a b c d (a + c) (b + d)) (a + c) - d)
                                                        (gate (ok2 a b c d (a + c) (b + d)) (b + d) - c))
                                                      (gate (ok2 a b c d (a + c) (b + d)) (a + c) - d) ≤
                                                    a ∧
                                                  b ≤
                                                    gate
                                                      (ok2 (gate (ok2 a b c d (a + c) (b + d)) (a + c))
                                                        (gate (ok2 a b c d (a + c) (b + d)) (b + d)) c d
                                                        (gate (ok2 a b c d (a + c) (b + d)) (a + c) - d)
                                                        (gate (ok2 a b c d (a + c) (b + d)) (b + d) - c))
                                                      (gate (ok2 a b c d (a + c) (b + d)) (b + d) - c)))
                                          (bcase
                                            (gate (Val (gate (Val a b) (-b)) (gate (Val a b) (-a)))
                                                  (-gate (Val a b) (-a)) ==
                                                a &&
                                              (gate (Val (gate (Val a b) (-b)) (gate (Val a b) (-a)))
                                                    (-gate (Val a b) (-b)) ==
                                                  b &&
                                                true))
                                            (True ∧
                                              bcase
                                                (decide
                                                  (Val a b ∧
                                                    Val
                                                        (gate
                                                          (okT
                                                            (gate
                                                              (okT a b 1 (IntKind.i64.wrap (1 + IntKind.i64.wrap n)))
                                                              (tLo a b 1 (IntKind.i64.wrap (1 + IntKind.i64.wrap n))))
                                                            (gate
                                                              (okT a b 1 (IntKind.i64.wrap (1 + IntKind.i64.wrap n)))
                                                              (tHi a b 1 (IntKind.i64.wrap (1 + IntKind.i64.wrap n))))
                                                            (IntKind.i64.wrap (1 + IntKind.i64.wrap n)) 1)
                                                          (tLo
                                                            (gate
                                                              (okT a b 1 (IntKind.i64.wrap (1 + IntKind.i64.wrap n)))
                                                              (tLo a b 1 (IntKind.i64.wrap (1 + IntKind.i64.wrap n))))
                                                            (gate
                                                              (okT a b 1 (IntKind.i64.wrap (1 + IntKind.i64.wrap n)))
                                                              (tHi a b 1 (IntKind.i64.wrap (1 + IntKind.i64.wrap n))))
                                                            (IntKind.i64.wrap (1 + IntKind.i64.wrap n)) 1))
                                                        (gate
                                                          (okT
                                                            (gate
                                                              (okT a b 1 (IntKind.i64.wrap (1 + IntKind.i64.wrap n)))
                                                              (tLo a b 1 (IntKind.i64.wrap (1 + IntKind.i64.wrap n))))
                                                            (gate
                                                              (okT a b 1 (IntKind.i64.wrap (1 + IntKind.i64.wrap n)))
                                                              (tHi a b 1 (IntKind.i64.wrap (1 + IntKind.i64.wrap n))))
                                                            (IntKind.i64.wrap (1 + IntKind.i64.wrap n)) 1)
                                                          (tHi
                                                            (gate
                                                              (okT a b 1 (IntKind.i64.wrap (1 + IntKind.i64.wrap n)))
                                                              (tLo a b 1 (IntKind.i64.wrap (1 + IntKind.i64.wrap n))))
                                                            (gate
                                                              (okT a b 1 (IntKind.i64.wrap (1 + IntKind.i64.wrap n)))
                                                              (tHi a b 1 (IntKind.i64.wrap (1 + IntKind.i64.wrap n))))
                                                            (IntKind.i64.wrap (1 + IntKind.i64.wrap n)) 1)) ∧
                                                      gate
                                                            (okT
                                                              (gate
                                                                (okT a b 1 (IntKind.i64.wrap (1 + IntKind.i64.wrap n)))
                                                                (tLo a b 1 (IntKind.i64.wrap (1 + IntKind.i64.wrap n))))
                                                              (gate
                                                                (okT a b 1 (IntKind.i64.wrap (1 + IntKind.i64.wrap n)))
                                                                (tHi a b 1 (IntKind.i64.wrap (1 + IntKind.i64.wrap n))))
                                                              (IntKind.i64.wrap (1 + IntKind.i64.wrap n)) 1)
                                                            (tLo
                                                              (gate
                                                                (okT a b 1 (IntKind.i64.wrap (1 + IntKind.i64.wrap n)))
                                                                (tLo a b 1 (IntKind.i64.wrap (1 + IntKind.i64.wrap n))))
                                                              (gate
                                                                (okT a b 1 (IntKind.i64.wrap (1 + IntKind.i64.wrap n)))
                                                                (tHi a b 1 (IntKind.i64.wrap (1 + IntKind.i64.wrap n))))
                                                              (IntKind.i64.wrap (1 + IntKind.i64.wrap n)) 1) ≤
                                                          a ∧
                                                        b ≤
                                                          gate
                                                            (okT
                                                              (gate
                                                                (okT a b 1 (IntKind.i64.wrap (1 + IntKind.i64.wrap n)))
                                                                (tLo a b 1 (IntKind.i64.wrap (1 + IntKind.i64.wrap n))))
                                                              (gate
                                                                (okT a b 1 (IntKind.i64.wrap (1 + IntKind.i64.wrap n)))
                                                                (tHi a b 1 (IntKind.i64.wrap (1 + IntKind.i64.wrap n))))
                                                              (IntKind.i64.wrap (1 + IntKind.i64.wrap n)) 1)
                                                            (tHi
                                                              (gate
                                                                (okT a b 1 (IntKind.i64.wrap (1 + IntKind.i64.wrap n)))
                                                                (tLo a b 1 (IntKind.i64.wrap (1 + IntKind.i64.wrap n))))
                                                              (gate
                                                                (okT a b 1 (IntKind.i64.wrap (1 + IntKind.i64.wrap n)))
                                                                (tHi a b 1 (IntKind.i64.wrap (1 + IntKind.i64.wrap n))))
                                                              (IntKind.i64.wrap (1 + IntKind.i64.wrap n)) 1)))
                                                (K
                                                  (Value.bool
                                                    (decide
                                                      (IntKind.i64.wrap
                                                          (gate
                                                              (okT
                                                                (gate
                                                                  (okT a b 1
                                                                    (IntKind.i64.wrap (1 + IntKind.i64.wrap n)))
                                                                  (tLo a b 1
                                                                    (IntKind.i64.wrap (1 + IntKind.i64.wrap n))))
                                                                (gate
                                                                  (okT a b 1
                                                                    (IntKind.i64.wrap (1 + IntKind.i64.wrap n)))
                                                                  (tHi a b 1
                                                                    (IntKind.i64.wrap (1 + IntKind.i64.wrap n))))
                                                                (IntKind.i64.wrap (1 + IntKind.i64.wrap n)) 1)
                                                              (tHi
                                                                (gate
                                                                  (okT a b 1
                                                                    (IntKind.i64.wrap (1 + IntKind.i64.wrap n)))
                                                                  (tLo a b 1
                                                                    (IntKind.i64.wrap (1 + IntKind.i64.wrap n))))
                                                                (gate
                                                                  (okT a b 1
                                                                    (IntKind.i64.wrap (1 + IntKind.i64.wrap n)))
                                                                  (tHi a b 1
                                                                    (IntKind.i64.wrap (1 + IntKind.i64.wrap n))))
                                                                (IntKind.i64.wrap (1 + IntKind.i64.wrap n)) 1) -
                                                            gate
                                                              (okT
                                                                (gate
                                                                  (okT a b 1
                                                                    (IntKind.i64.wrap (1 + IntKind.i64.wrap n)))
                                                                  (tLo a b 1
                                                                    (IntKind.i64.wrap (1 + IntKind.i64.wrap n))))
                                                                (gate
                                                                  (okT a b 1
                                                                    (IntKind.i64.wrap (1 + IntKind.i64.wrap n)))
                                                                  (tHi a b 1
                                                                    (IntKind.i64.wrap (1 + IntKind.i64.wrap n))))
                                                                (IntKind.i64.wrap (1 + IntKind.i64.wrap n)) 1)
                                                              (tLo
                                                                (gate
                                                                  (okT a b 1
                                                                    (IntKind.i64.wrap (1 + IntKind.i64.wrap n)))
                                                                  (tLo a b 1
                                                                    (IntKind.i64.wrap (1 + IntKind.i64.wrap n))))
                                                                (gate
                                                                  (okT a b 1
                                                                    (IntKind.i64.wrap (1 + IntKind.i64.wrap n)))
                                                                  (tHi a b 1
                                                                    (IntKind.i64.wrap (1 + IntKind.i64.wrap n))))
                                                                (IntKind.i64.wrap (1 + IntKind.i64.wrap n)) 1)) ≤
                                                        IntKind.i64.wrap
                                                          (IntKind.i64.wrap (b - a) +
                                                            IntKind.i64.wrap
                                                              (2 * IntKind.i64.wrap (1 + IntKind.i64.wrap n)))))))
                                                (K (Value.bool false)))
                                            (K (Value.bool false)))
                                          (K (Value.bool false)))
                                      (K (Value.bool false)))
                                    (K (Value.bool false)))
                                  (K (Value.bool false)))
                                (K (Value.bool false)))
                              (K (Value.bool false)))
                            (K (Value.bool false))))))))) := by kernel_rfl
end Go.Proofs.YtcejlhgjcoidpaaDoor
