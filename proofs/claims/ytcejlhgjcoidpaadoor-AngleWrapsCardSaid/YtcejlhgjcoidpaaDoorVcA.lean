/- Contracts of the functions of angle over numbers and arcs. -/
import Derived.Test.YtcejlhgjcoidpaaDoorSpecA
namespace Go.Proofs.YtcejlhgjcoidpaaDoor
open Go Go.Abs Go.RowKit
set_option linter.unusedVariables false
set_option linter.unusedSimpArgs false
theorem vc_fits (n : Int) (K : Value → Prop) : callsX Tryd.prog ([]) (noAnn) 46 [num n] K = (
 bcase (decide (n ≥ -1099511627776)) (K (Value.bool (decide (n ≤ 1099511627776)))) (K (Value.bool false))) := by kernel_rfl
theorem vc_valid (a b : Int) (K : Value → Prop) : callsX Tryd.prog ([(46, sFits)]) (noAnn) 14 [arc a b] K = (
 bcase (decide (a ≤ b)) (True ∧ bcase (decide (Fit a)) (True ∧ K (Value.bool (decide (Fit b)))) (K (Value.bool false)))
  (K (Value.bool false))) := by kernel_rfl
theorem vc_r5valid (a b : Int) (K : Value → Prop) : callsX Tryd.prog ([]) (noAnn) 15 [arc a b] K = (
 bcase (decide (a ≤ b))
  (bcase (decide (a ≥ -1099511627776)) (K (Value.bool (decide (b ≤ 1099511627776)))) (K (Value.bool false)))
  (K (Value.bool false))) := by kernel_rfl
theorem vc_wrap (n : Int) (K : Value → Prop) : callsX Tryd.prog ([]) (noAnn) 12 [num n] K = (
 bcase (decide (n.tmod 21600000 < 0)) (K (Value.int IntKind.i64 (IntKind.i64.wrap (n.tmod 21600000 + 21600000))))
  (K (Value.int IntKind.i64 (n.tmod 21600000)))) := by kernel_rfl
theorem vc_r5wrap (n : Int) (K : Value → Prop) : callsX Tryd.prog ([]) (noAnn) 18 [num n] K = (
 bcase (decide (n.tmod 21600000 < 0)) (K (Value.int IntKind.i64 (IntKind.i64.wrap (n.tmod 21600000 + 21600000))))
  (K (Value.int IntKind.i64 (n.tmod 21600000)))) := by kernel_rfl
theorem vc_signed (n : Int) (K : Value → Prop) : callsX Tryd.prog (Γ0) (noAnn) 13 [num n] K = (
 True ∧
  bcase (decide (n % 21600000 ≥ 10800000)) (K (Value.int IntKind.i64 (IntKind.i64.wrap (n % 21600000 - 21600000))))
    (K (Value.int IntKind.i64 (n % 21600000)))) := by kernel_rfl
theorem vc_r5signed (n : Int) (K : Value → Prop) : callsX Tryd.prog (Γ0) (noAnn) 19 [num n] K = (
 True ∧
  bcase (decide (n % 21600000 ≥ 10800000)) (K (Value.int IntKind.i64 (IntKind.i64.wrap (n % 21600000 - 21600000))))
    (K (Value.int IntKind.i64 (n % 21600000)))) := by kernel_rfl
theorem vc_floor (n d : Int) (K : Value → Prop) : callsX Tryd.prog ([]) (noAnn) 48 [num n, num d] K = (
 bcase (d == 0) False
  (bcase (d == 0) False
    (bcase (decide (n.tmod d < 0)) (K (Value.int IntKind.i64 (IntKind.i64.wrap (IntKind.i64.wrap (n.tdiv d) - 1))))
      (K (Value.int IntKind.i64 (IntKind.i64.wrap (n.tdiv d))))))) := by kernel_rfl
theorem vc_r5floor (n d : Int) (K : Value → Prop) : callsX Tryd.prog ([]) (noAnn) 49 [num n, num d] K = (
 bcase (d == 0) False
  (bcase (d == 0) False
    (bcase (decide (n.tmod d < 0)) (K (Value.int IntKind.i64 (IntKind.i64.wrap (IntKind.i64.wrap (n.tdiv d) - 1))))
      (K (Value.int IntKind.i64 (IntKind.i64.wrap (n.tdiv d))))))) := by kernel_rfl
theorem vc_r5ceil (n d : Int) (K : Value → Prop) : callsX Tryd.prog ([]) (noAnn) 50 [num n, num d] K = (
 bcase (d == 0) False
  (bcase (d == 0) False
    (bcase (decide (n.tmod d > 0)) (K (Value.int IntKind.i64 (IntKind.i64.wrap (IntKind.i64.wrap (n.tdiv d) + 1))))
      (K (Value.int IntKind.i64 (IntKind.i64.wrap (n.tdiv d))))))) := by kernel_rfl
theorem vc_result (n d : Int) (K : Value → Prop) : callsX Tryd.prog ([(46, sFits)]) (noAnn) 47 [num n, num d] K = (
 True ∧
  bcase (!decide (Fit n))
    (K (Value.tuple #[Value.agg #[Value.int IntKind.i64 0, Value.int IntKind.i64 0], Value.int IntKind.i64 5]))
    (True ∧
      bcase (!decide (Fit d))
        (K (Value.tuple #[Value.agg #[Value.int IntKind.i64 0, Value.int IntKind.i64 0], Value.int IntKind.i64 5]))
        (K (Value.tuple #[Value.agg #[Value.int IntKind.i64 n, Value.int IntKind.i64 d], Value.int IntKind.i64 0])))) := by kernel_rfl
theorem vc_inside (a b c d : Int) (K : Value → Prop) : callsX Tryd.prog (Γ0) (noAnn) 16 [arc a b, arc c d] K = (
 True ∧
  bcase (decide (Val a b))
    (True ∧
      bcase (decide (Val c d)) (bcase (decide (a ≥ c)) (K (Value.bool (decide (b ≤ d)))) (K (Value.bool false)))
        (K (Value.bool false)))
    (K (Value.bool false))) := by kernel_rfl
theorem vc_add (a b c d : Int) (K : Value → Prop) : callsX Tryd.prog (Γ0) (noAnn) 24 [arc a b, arc c d] K = (
 True ∧
  bcase (!decide (Val a b))
    (K (Value.tuple #[Value.agg #[Value.int IntKind.i64 0, Value.int IntKind.i64 0], Value.int IntKind.i64 1]))
    (True ∧
      bcase (!decide (Val c d))
        (K (Value.tuple #[Value.agg #[Value.int IntKind.i64 0, Value.int IntKind.i64 0], Value.int IntKind.i64 1]))
        (True ∧
          K
            (Value.tuple
              #[Value.agg
                  #[Value.int IntKind.i64
                      (gate (Fit (IntKind.i64.wrap (a + c)) ∧ Fit (IntKind.i64.wrap (b + d)))
                        (IntKind.i64.wrap (a + c))),
                    Value.int IntKind.i64
                      (gate (Fit (IntKind.i64.wrap (a + c)) ∧ Fit (IntKind.i64.wrap (b + d)))
                        (IntKind.i64.wrap (b + d)))],
                Value.int IntKind.i64 (pick (Fit (IntKind.i64.wrap (a + c)) ∧ Fit (IntKind.i64.wrap (b + d))) 0 5)])))) := by kernel_rfl
theorem vc_neg (a b : Int) (K : Value → Prop) : callsX Tryd.prog (Γ0) (noAnn) 27 [arc a b] K = (
 True ∧
  bcase (!decide (Val a b))
    (K (Value.tuple #[Value.agg #[Value.int IntKind.i64 0, Value.int IntKind.i64 0], Value.int IntKind.i64 1]))
    (True ∧
      K
        (Value.tuple
          #[Value.agg
              #[Value.int IntKind.i64
                  (gate (Fit (IntKind.i64.wrap (0 - b)) ∧ Fit (IntKind.i64.wrap (0 - a))) (IntKind.i64.wrap (0 - b))),
                Value.int IntKind.i64
                  (gate (Fit (IntKind.i64.wrap (0 - b)) ∧ Fit (IntKind.i64.wrap (0 - a))) (IntKind.i64.wrap (0 - a)))],
            Value.int IntKind.i64 (pick (Fit (IntKind.i64.wrap (0 - b)) ∧ Fit (IntKind.i64.wrap (0 - a))) 0 5)]))) := by kernel_rfl
theorem vc_sub (a b c d : Int) (K : Value → Prop) : callsX Tryd.prog (Γ1) (noAnn) 26 [arc a b, arc c d] K = (
 True ∧
  bcase (pick (Val c d) 0 1 != 0)
    (K
      (Value.tuple
        #[Value.agg #[Value.int IntKind.i64 (gate (Val c d) (-d)), Value.int IntKind.i64 (gate (Val c d) (-c))],
          Value.int IntKind.i64 (pick (Val c d) 0 1)]))
    (True ∧
      K
        (Value.tuple
          #[Value.agg
              #[Value.int IntKind.i64
                  (gate
                    (ok2 a b (gate (Val c d) (-d)) (gate (Val c d) (-c)) (a + gate (Val c d) (-d))
                      (b + gate (Val c d) (-c)))
                    (a + gate (Val c d) (-d))),
                Value.int IntKind.i64
                  (gate
                    (ok2 a b (gate (Val c d) (-d)) (gate (Val c d) (-c)) (a + gate (Val c d) (-d))
                      (b + gate (Val c d) (-c)))
                    (b + gate (Val c d) (-c)))],
            Value.int IntKind.i64
              (er2 a b (gate (Val c d) (-d)) (gate (Val c d) (-c)) (a + gate (Val c d) (-d))
                (b + gate (Val c d) (-c)))]))) := by kernel_rfl
theorem vc_times (a b m d : Int) (K : Value → Prop) : callsX Tryd.prog (Γ0) (noAnn) 28 [arc a b, num m, num d] K = (
 True ∧
  bcase (!decide (Val a b))
    (K (Value.tuple #[Value.agg #[Value.int IntKind.i64 0, Value.int IntKind.i64 0], Value.int IntKind.i64 1]))
    (bcase (decide (m < -1048576))
      (K (Value.tuple #[Value.agg #[Value.int IntKind.i64 0, Value.int IntKind.i64 0], Value.int IntKind.i64 2]))
      (bcase (decide (m > 1048576))
        (K (Value.tuple #[Value.agg #[Value.int IntKind.i64 0, Value.int IntKind.i64 0], Value.int IntKind.i64 2]))
        (bcase (decide (d < 1))
          (K (Value.tuple #[Value.agg #[Value.int IntKind.i64 0, Value.int IntKind.i64 0], Value.int IntKind.i64 2]))
          (bcase (decide (d > 1048576))
            (K (Value.tuple #[Value.agg #[Value.int IntKind.i64 0, Value.int IntKind.i64 0], Value.int IntKind.i64 2]))
            ((I64
                  (if IntKind.i64.wrap (b * m) < IntKind.i64.wrap (a * m) then IntKind.i64.wrap (b * m)
                  else IntKind.i64.wrap (a * m)) ∧
                Den d) ∧
              (I64
                    (IntKind.i64.wrap
                      (0 -
                        if IntKind.i64.wrap (b * m) > IntKind.i64.wrap (a * m) then IntKind.i64.wrap (b * m)
                        else IntKind.i64.wrap (a * m))) ∧
                  Den d) ∧
                True ∧
                  K
                    (Value.tuple
                      #[Value.agg
                          #[Value.int IntKind.i64
                              (gate
                                (Fit
                                    ((if IntKind.i64.wrap (b * m) < IntKind.i64.wrap (a * m) then
                                        IntKind.i64.wrap (b * m)
                                      else IntKind.i64.wrap (a * m)) /
                                      d) ∧
                                  Fit
                                    (IntKind.i64.wrap
                                      (0 -
                                        IntKind.i64.wrap
                                            (0 -
                                              if IntKind.i64.wrap (b * m) > IntKind.i64.wrap (a * m) then
                                                IntKind.i64.wrap (b * m)
                                              else IntKind.i64.wrap (a * m)) /
                                          d)))
                                ((if IntKind.i64.wrap (b * m) < IntKind.i64.wrap (a * m) then IntKind.i64.wrap (b * m)
                                  else IntKind.i64.wrap (a * m)) /
                                  d)),
                            Value.int IntKind.i64
                              (gate
                                (Fit
                                    ((if IntKind.i64.wrap (b * m) < IntKind.i64.wrap (a * m) then
                                        IntKind.i64.wrap (b * m)
                                      else IntKind.i64.wrap (a * m)) /
                                      d) ∧
                                  Fit
                                    (IntKind.i64.wrap
                                      (0 -
                                        IntKind.i64.wrap
                                            (0 -
                                              if IntKind.i64.wrap (b * m) > IntKind.i64.wrap (a * m) then
                                                IntKind.i64.wrap (b * m)
                                              else IntKind.i64.wrap (a * m)) /
                                          d)))
                                (IntKind.i64.wrap
                                  (0 -
                                    IntKind.i64.wrap
                                        (0 -
                                          if IntKind.i64.wrap (b * m) > IntKind.i64.wrap (a * m) then
                                            IntKind.i64.wrap (b * m)
                                          else IntKind.i64.wrap (a * m)) /
                                      d)))],
                        Value.int IntKind.i64
                          (pick
                            (Fit
                                ((if IntKind.i64.wrap (b * m) < IntKind.i64.wrap (a * m) then IntKind.i64.wrap (b * m)
                                  else IntKind.i64.wrap (a * m)) /
                                  d) ∧
                              Fit
                                (IntKind.i64.wrap
                                  (0 -
                                    IntKind.i64.wrap
                                        (0 -
                                          if IntKind.i64.wrap (b * m) > IntKind.i64.wrap (a * m) then
                                            IntKind.i64.wrap (b * m)
                                          else IntKind.i64.wrap (a * m)) /
                                      d)))
                            0 5)]))))))) := by kernel_rfl
theorem vc_hull (a b c d : Int) (K : Value → Prop) : callsX Tryd.prog (Γ0) (noAnn) 34 [arc a b, arc c d] K = (
 True ∧
  bcase (!decide (Val a b))
    (K (Value.tuple #[Value.agg #[Value.int IntKind.i64 0, Value.int IntKind.i64 0], Value.int IntKind.i64 1]))
    (True ∧
      bcase (!decide (Val c d))
        (K (Value.tuple #[Value.agg #[Value.int IntKind.i64 0, Value.int IntKind.i64 0], Value.int IntKind.i64 1]))
        (K
          (Value.tuple
            #[Value.agg
                #[Value.int IntKind.i64 (if c < a then c else a), Value.int IntKind.i64 (if d > b then d else b)],
              Value.int IntKind.i64 0])))) := by kernel_rfl
theorem vc_meet (a b c d : Int) (K : Value → Prop) : callsX Tryd.prog (Γ0) (noAnn) 35 [arc a b, arc c d] K = (
 True ∧
  bcase (!decide (Val a b))
    (K (Value.tuple #[Value.agg #[Value.int IntKind.i64 0, Value.int IntKind.i64 0], Value.int IntKind.i64 1]))
    (True ∧
      bcase (!decide (Val c d))
        (K (Value.tuple #[Value.agg #[Value.int IntKind.i64 0, Value.int IntKind.i64 0], Value.int IntKind.i64 1]))
        (bcase (decide ((if c > a then c else a) > if d < b then d else b))
          (K (Value.tuple #[Value.agg #[Value.int IntKind.i64 0, Value.int IntKind.i64 0], Value.int IntKind.i64 23]))
          (K
            (Value.tuple
              #[Value.agg
                  #[Value.int IntKind.i64 (if c > a then c else a), Value.int IntKind.i64 (if d < b then d else b)],
                Value.int IntKind.i64 0]))))) := by kernel_rfl
theorem vc_turn (a b : Int) (K : Value → Prop) : callsX Tryd.prog (Γ0) (noAnn) 20 [arc a b] K = (
 True ∧
  bcase (!decide (Val a b))
    (K (Value.tuple #[Value.agg #[Value.int IntKind.i64 0, Value.int IntKind.i64 0], Value.int IntKind.i64 1]))
    (bcase (decide (IntKind.i64.wrap (b - a) ≥ 21600000))
      (K (Value.tuple #[Value.agg #[Value.int IntKind.i64 0, Value.int IntKind.i64 21600000], Value.int IntKind.i64 0]))
      (True ∧
        K
          (Value.tuple
            #[Value.agg
                #[Value.int IntKind.i64 (a % 21600000),
                  Value.int IntKind.i64 (IntKind.i64.wrap (a % 21600000 + IntKind.i64.wrap (b - a)))],
              Value.int IntKind.i64 0])))) := by kernel_rfl
theorem vc_agree (a b c d : Int) (K : Value → Prop) : callsX Tryd.prog (Γ0) (noAnn) 21 [arc a b, arc c d] K = (
 True ∧
  bcase (!decide (Val a b)) (K (Value.tuple #[Value.bool false, Value.int IntKind.i64 1]))
    (True ∧
      bcase (!decide (Val c d)) (K (Value.tuple #[Value.bool false, Value.int IntKind.i64 1]))
        (True ∧
          bcase (decide (IntKind.i64.wrap (c - a) % 21600000 ≤ IntKind.i64.wrap (b - a)))
            (K (Value.tuple #[Value.bool true, Value.int IntKind.i64 0]))
            (True ∧
              K
                (Value.tuple
                  #[Value.bool (decide (IntKind.i64.wrap (a - c) % 21600000 ≤ IntKind.i64.wrap (d - c))),
                    Value.int IntKind.i64 0]))))) := by kernel_rfl
theorem vc_r5inside (a b c d : Int) (K : Value → Prop) : callsX Tryd.prog ([]) (noAnn) 17 [arc a b, arc c d] K = (
 bcase (decide (c ≤ a)) (K (Value.bool (decide (b ≤ d)))) (K (Value.bool false))) := by kernel_rfl
theorem vc_r5meets (a b c d : Int) (K : Value → Prop) : callsX Tryd.prog ([]) (noAnn) 37 [arc a b, arc c d] K = (
 bcase (decide (a ≤ d)) (K (Value.bool (decide (c ≤ b)))) (K (Value.bool false))) := by kernel_rfl
theorem vc_r5hull (a b c d : Int) (K : Value → Prop) : callsX Tryd.prog ([]) (noAnn) 36 [arc a b, arc c d] K = (
 bcase (decide (c < a))
  (bcase (decide (d > b)) (K (Value.agg #[Value.int IntKind.i64 c, Value.int IntKind.i64 d]))
    (K (Value.agg #[Value.int IntKind.i64 c, Value.int IntKind.i64 b])))
  (bcase (decide (d > b)) (K (Value.agg #[Value.int IntKind.i64 a, Value.int IntKind.i64 d]))
    (K (Value.agg #[Value.int IntKind.i64 a, Value.int IntKind.i64 b])))) := by kernel_rfl
theorem vc_r5meet (a b c d : Int) (K : Value → Prop) : callsX Tryd.prog ([]) (noAnn) 38 [arc a b, arc c d] K = (
 bcase (decide (c > a))
  (bcase (decide (d < b)) (K (Value.agg #[Value.int IntKind.i64 c, Value.int IntKind.i64 d]))
    (K (Value.agg #[Value.int IntKind.i64 c, Value.int IntKind.i64 b])))
  (bcase (decide (d < b)) (K (Value.agg #[Value.int IntKind.i64 a, Value.int IntKind.i64 d]))
    (K (Value.agg #[Value.int IntKind.i64 a, Value.int IntKind.i64 b])))) := by kernel_rfl
theorem vc_r5add (a b c d : Int) (K : Value → Prop) : callsX Tryd.prog ([]) (noAnn) 32 [arc a b, arc c d] K = (
 K (Value.agg #[Value.int IntKind.i64 (IntKind.i64.wrap (a + c)), Value.int IntKind.i64 (IntKind.i64.wrap (b + d))])) := by kernel_rfl
theorem vc_r5sub (a b c d : Int) (K : Value → Prop) : callsX Tryd.prog ([]) (noAnn) 33 [arc a b, arc c d] K = (
 K (Value.agg #[Value.int IntKind.i64 (IntKind.i64.wrap (a - d)), Value.int IntKind.i64 (IntKind.i64.wrap (b - c))])) := by kernel_rfl
theorem vc_r5neg (a b : Int) (K : Value → Prop) : callsX Tryd.prog ([]) (noAnn) 29 [arc a b] K = (
 K (Value.agg #[Value.int IntKind.i64 (IntKind.i64.wrap (0 - b)), Value.int IntKind.i64 (IntKind.i64.wrap (0 - a))])) := by kernel_rfl
theorem vc_one (n : Int) (K : Value → Prop) : callsX Tryd.prog ([]) (noAnn) 25 [num n] K = (
 K (Value.agg #[Value.int IntKind.i64 n, Value.int IntKind.i64 n])) := by kernel_rfl
theorem vc_r5turn (a b : Int) (K : Value → Prop) : callsX Tryd.prog (Γ0) (noAnn) 22 [arc a b] K = (
 bcase (decide (IntKind.i64.wrap (b - a) ≥ 21600000))
  (K (Value.agg #[Value.int IntKind.i64 0, Value.int IntKind.i64 21600000]))
  (True ∧
    K
      (Value.agg
        #[Value.int IntKind.i64 (a % 21600000),
          Value.int IntKind.i64 (IntKind.i64.wrap (a % 21600000 + IntKind.i64.wrap (b - a)))]))) := by kernel_rfl
theorem vc_r5times0 (a b m d : Int) (K : Value → Prop) : callsX Tryd.prog ((30, sFalse) :: Γ0) (noAnn) 30 [arc a b, num m, num d] K = (
 bcase (decide (m < 0)) (False ∧ False)
  ((I64 (IntKind.i64.wrap (a * m)) ∧ Den d) ∧
    (I64 (IntKind.i64.wrap (b * m)) ∧ Den d ∧ I64 (-(-IntKind.i64.wrap (b * m) / d))) ∧
      K
        (Value.agg
          #[Value.int IntKind.i64 (IntKind.i64.wrap (a * m) / d),
            Value.int IntKind.i64 (-(-IntKind.i64.wrap (b * m) / d))]))) := by kernel_rfl
theorem vc_r5times1 (a b m d : Int) (K : Value → Prop) : callsX Tryd.prog ((30, sR5TimesPos) :: Γ0) (noAnn) 30 [arc a b, num m, num d] K = (
 bcase (decide (m < 0))
  ((Val (IntKind.i64.wrap (0 - b)) (IntKind.i64.wrap (0 - a)) ∧
      Frac (IntKind.i64.wrap (0 - m)) d ∧ 0 ≤ IntKind.i64.wrap (0 - m)) ∧
    K
      (Value.agg
        #[Value.int IntKind.i64
            (tLo (IntKind.i64.wrap (0 - b)) (IntKind.i64.wrap (0 - a)) (IntKind.i64.wrap (0 - m)) d),
          Value.int IntKind.i64
            (tHi (IntKind.i64.wrap (0 - b)) (IntKind.i64.wrap (0 - a)) (IntKind.i64.wrap (0 - m)) d)]))
  ((I64 (IntKind.i64.wrap (a * m)) ∧ Den d) ∧
    (I64 (IntKind.i64.wrap (b * m)) ∧ Den d ∧ I64 (-(-IntKind.i64.wrap (b * m) / d))) ∧
      K
        (Value.agg
          #[Value.int IntKind.i64 (IntKind.i64.wrap (a * m) / d),
            Value.int IntKind.i64 (-(-IntKind.i64.wrap (b * m) / d))]))) := by kernel_rfl
end Go.Proofs.YtcejlhgjcoidpaaDoor
