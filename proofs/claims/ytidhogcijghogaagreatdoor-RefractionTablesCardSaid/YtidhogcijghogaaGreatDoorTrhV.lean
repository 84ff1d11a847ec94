/- The reference's quick sine and its floor: what they ask. -/
import Derived.Test.YtidhogcijghogaaGreatDoorTrhS
namespace Go.Proofs.YtidhogcijghogaaGreatDoor
open Go Go.Abs Go.RowKit Go.Sine
set_option linter.unusedVariables false
set_option linter.unusedSimpArgs false
theorem vc_r6high (a b : Int) (K : Value → Prop) : callsX Tryz.prog ([]) (noAnn) 131 [.int .i64 a, .int .i64 b] K = (
 K (Value.int IntKind.i64 (IntKind.i64.wrap (IntKind.i64.wrap (IntKind.i64.wrap (a.fdiv (2 ^ 31) * b.fdiv (2 ^ 31)) + (IntKind.i64.wrap (a.fdiv (2 ^ 31) * andI IntKind.i64 b 2147483647)).fdiv (2 ^ 31)) + (IntKind.i64.wrap (andI IntKind.i64 a 2147483647 * b.fdiv (2 ^ 31))).fdiv (2 ^ 31))))) := by kernel_rfl
theorem vc_r6quick (r T : Int) (c : Bool) (sq : Nat) (K : Value → Prop) : callsX Tryz.prog (ΓQ1) (AQk T sq) 121 [.int .i64 r, .bool c] K = (
 (B62 (IntKind.i64.wrap (IntKind.i64.wrap (IntKind.i64.wrap (r * 2620088056) * 2 ^ 9) + (IntKind.i64.wrap (r * 658911831)).fdiv (2 ^ 22))) ∧ B62 (IntKind.i64.wrap (IntKind.i64.wrap (IntKind.i64.wrap (r * 2620088056) * 2 ^ 9) + (IntKind.i64.wrap (r * 658911831)).fdiv (2 ^ 22)))) ∧
 bcase c
 (∃ (s : Qk),
 (hiI (IntKind.i64.wrap (IntKind.i64.wrap (IntKind.i64.wrap (r * 2620088056) * 2 ^ 9) + (IntKind.i64.wrap (r * 658911831)).fdiv (2 ^ 22))) (IntKind.i64.wrap (IntKind.i64.wrap (IntKind.i64.wrap (r * 2620088056) * 2 ^ 9) + (IntKind.i64.wrap (r * 658911831)).fdiv (2 ^ 22))) =
 hiI (IntKind.i64.wrap (IntKind.i64.wrap (IntKind.i64.wrap (r * 2620088056) * 2 ^ 9) + (IntKind.i64.wrap (r * 658911831)).fdiv (2 ^ 22))) (IntKind.i64.wrap (IntKind.i64.wrap (IntKind.i64.wrap (r * 2620088056) * 2 ^ 9) + (IntKind.i64.wrap (r * 658911831)).fdiv (2 ^ 22))) ∧
 4611686018427387904 = (↑s.3 : Int) ∧ 1 = (↑s.4 : Int) ∧ 0 = s.2 ∧ True) ∧
 QkR T sq s.1 s.2 s.3 s.4 ∧
 ∀ (s : Qk),
 QkR T sq s.1 s.2 s.3 s.4 →
 bcase (decide ((↑s.3 : Int) > 0))
 ((B62 (↑s.3 : Int) ∧ B62 (hiI (IntKind.i64.wrap (IntKind.i64.wrap (IntKind.i64.wrap (r * 2620088056) * 2 ^ 9) + (IntKind.i64.wrap (r * 658911831)).fdiv (2 ^ 22))) (IntKind.i64.wrap (IntKind.i64.wrap (IntKind.i64.wrap (r * 2620088056) * 2 ^ 9) + (IntKind.i64.wrap (r * 658911831)).fdiv (2 ^ 22))))) ∧
 bcase (IntKind.i64.wrap ((↑s.4 : Int) * IntKind.i64.wrap ((↑s.4 : Int) + 1)) == 0) False
 ((B62 (IntKind.i64.wrap ((hiI (↑s.3 : Int) (hiI (IntKind.i64.wrap (IntKind.i64.wrap (IntKind.i64.wrap (r * 2620088056) * 2 ^ 9) + (IntKind.i64.wrap (r * 658911831)).fdiv (2 ^ 22))) (IntKind.i64.wrap (IntKind.i64.wrap (IntKind.i64.wrap (r * 2620088056) * 2 ^ 9) + (IntKind.i64.wrap (r * 658911831)).fdiv (2 ^ 22))))).tdiv (IntKind.i64.wrap ((↑s.4 : Int) * IntKind.i64.wrap ((↑s.4 : Int) + 1))))) ∧
 B62 (hiI (IntKind.i64.wrap (IntKind.i64.wrap (IntKind.i64.wrap (r * 2620088056) * 2 ^ 9) + (IntKind.i64.wrap (r * 658911831)).fdiv (2 ^ 22))) (IntKind.i64.wrap (IntKind.i64.wrap (IntKind.i64.wrap (r * 2620088056) * 2 ^ 9) + (IntKind.i64.wrap (r * 658911831)).fdiv (2 ^ 22))))) ∧
 bcase (IntKind.i64.wrap (IntKind.i64.wrap ((↑s.4 : Int) + 2) * IntKind.i64.wrap ((↑s.4 : Int) + 3)) == 0) False
 (∃ (s_1 : Qk),
 (hiI (IntKind.i64.wrap (IntKind.i64.wrap (IntKind.i64.wrap (r * 2620088056) * 2 ^ 9) + (IntKind.i64.wrap (r * 658911831)).fdiv (2 ^ 22))) (IntKind.i64.wrap (IntKind.i64.wrap (IntKind.i64.wrap (r * 2620088056) * 2 ^ 9) + (IntKind.i64.wrap (r * 658911831)).fdiv (2 ^ 22))) =
 hiI (IntKind.i64.wrap (IntKind.i64.wrap (IntKind.i64.wrap (r * 2620088056) * 2 ^ 9) + (IntKind.i64.wrap (r * 658911831)).fdiv (2 ^ 22))) (IntKind.i64.wrap (IntKind.i64.wrap (IntKind.i64.wrap (r * 2620088056) * 2 ^ 9) + (IntKind.i64.wrap (r * 658911831)).fdiv (2 ^ 22))) ∧
 IntKind.i64.wrap
 ((hiI (IntKind.i64.wrap ((hiI (↑s.3 : Int) (hiI (IntKind.i64.wrap (IntKind.i64.wrap (IntKind.i64.wrap (r * 2620088056) * 2 ^ 9) + (IntKind.i64.wrap (r * 658911831)).fdiv (2 ^ 22))) (IntKind.i64.wrap (IntKind.i64.wrap (IntKind.i64.wrap (r * 2620088056) * 2 ^ 9) + (IntKind.i64.wrap (r * 658911831)).fdiv (2 ^ 22))))).tdiv (IntKind.i64.wrap ((↑s.4 : Int) * IntKind.i64.wrap ((↑s.4 : Int) + 1)))))
 (hiI (IntKind.i64.wrap (IntKind.i64.wrap (IntKind.i64.wrap (r * 2620088056) * 2 ^ 9) + (IntKind.i64.wrap (r * 658911831)).fdiv (2 ^ 22))) (IntKind.i64.wrap (IntKind.i64.wrap (IntKind.i64.wrap (r * 2620088056) * 2 ^ 9) + (IntKind.i64.wrap (r * 658911831)).fdiv (2 ^ 22))))).tdiv
 (IntKind.i64.wrap (IntKind.i64.wrap ((↑s.4 : Int) + 2) * IntKind.i64.wrap ((↑s.4 : Int) + 3)))) =
 (↑s_1.3 : Int) ∧
 IntKind.i64.wrap ((↑s.4 : Int) + 4) = (↑s_1.4 : Int) ∧
 IntKind.i64.wrap
 (IntKind.i64.wrap (s.2 + (↑s.3 : Int)) -
 IntKind.i64.wrap ((hiI (↑s.3 : Int) (hiI (IntKind.i64.wrap (IntKind.i64.wrap (IntKind.i64.wrap (r * 2620088056) * 2 ^ 9) + (IntKind.i64.wrap (r * 658911831)).fdiv (2 ^ 22))) (IntKind.i64.wrap (IntKind.i64.wrap (IntKind.i64.wrap (r * 2620088056) * 2 ^ 9) + (IntKind.i64.wrap (r * 658911831)).fdiv (2 ^ 22))))).tdiv (IntKind.i64.wrap ((↑s.4 : Int) * IntKind.i64.wrap ((↑s.4 : Int) + 1))))) =
 s_1.2 ∧
 True) ∧
 QkR T sq s_1.1 s_1.2 s_1.3 s_1.4 ∧ s_1.1 < s.1)))
 (K (Value.int IntKind.i64 s.2)))
 (∃ (s : Qk),
 (hiI (IntKind.i64.wrap (IntKind.i64.wrap (IntKind.i64.wrap (r * 2620088056) * 2 ^ 9) + (IntKind.i64.wrap (r * 658911831)).fdiv (2 ^ 22))) (IntKind.i64.wrap (IntKind.i64.wrap (IntKind.i64.wrap (r * 2620088056) * 2 ^ 9) + (IntKind.i64.wrap (r * 658911831)).fdiv (2 ^ 22))) =
 hiI (IntKind.i64.wrap (IntKind.i64.wrap (IntKind.i64.wrap (r * 2620088056) * 2 ^ 9) + (IntKind.i64.wrap (r * 658911831)).fdiv (2 ^ 22))) (IntKind.i64.wrap (IntKind.i64.wrap (IntKind.i64.wrap (r * 2620088056) * 2 ^ 9) + (IntKind.i64.wrap (r * 658911831)).fdiv (2 ^ 22))) ∧
 IntKind.i64.wrap (IntKind.i64.wrap (IntKind.i64.wrap (r * 2620088056) * 2 ^ 9) + (IntKind.i64.wrap (r * 658911831)).fdiv (2 ^ 22)) = (↑s.3 : Int) ∧ 2 = (↑s.4 : Int) ∧ 0 = s.2 ∧ True) ∧
 QkR T sq s.1 s.2 s.3 s.4 ∧
 ∀ (s : Qk),
 QkR T sq s.1 s.2 s.3 s.4 →
 bcase (decide ((↑s.3 : Int) > 0))
 ((B62 (↑s.3 : Int) ∧ B62 (hiI (IntKind.i64.wrap (IntKind.i64.wrap (IntKind.i64.wrap (r * 2620088056) * 2 ^ 9) + (IntKind.i64.wrap (r * 658911831)).fdiv (2 ^ 22))) (IntKind.i64.wrap (IntKind.i64.wrap (IntKind.i64.wrap (r * 2620088056) * 2 ^ 9) + (IntKind.i64.wrap (r * 658911831)).fdiv (2 ^ 22))))) ∧
 bcase (IntKind.i64.wrap ((↑s.4 : Int) * IntKind.i64.wrap ((↑s.4 : Int) + 1)) == 0) False
 ((B62 (IntKind.i64.wrap ((hiI (↑s.3 : Int) (hiI (IntKind.i64.wrap (IntKind.i64.wrap (IntKind.i64.wrap (r * 2620088056) * 2 ^ 9) + (IntKind.i64.wrap (r * 658911831)).fdiv (2 ^ 22))) (IntKind.i64.wrap (IntKind.i64.wrap (IntKind.i64.wrap (r * 2620088056) * 2 ^ 9) + (IntKind.i64.wrap (r * 658911831)).fdiv (2 ^ 22))))).tdiv (IntKind.i64.wrap ((↑s.4 : Int) * IntKind.i64.wrap ((↑s.4 : Int) + 1))))) ∧
 B62 (hiI (IntKind.i64.wrap (IntKind.i64.wrap (IntKind.i64.wrap (r * 2620088056) * 2 ^ 9) + (IntKind.i64.wrap (r * 658911831)).fdiv (2 ^ 22))) (IntKind.i64.wrap (IntKind.i64.wrap (IntKind.i64.wrap (r * 2620088056) * 2 ^ 9) + (IntKind.i64.wrap (r * 658911831)).fdiv (2 ^ 22))))) ∧
 bcase (IntKind.i64.wrap (IntKind.i64.wrap ((↑s.4 : Int) + 2) * IntKind.i64.wrap ((↑s.4 : Int) + 3)) == 0) False
 (∃ (s_1 : Qk),
 (hiI (IntKind.i64.wrap (IntKind.i64.wrap (IntKind.i64.wrap (r * 2620088056) * 2 ^ 9) + (IntKind.i64.wrap (r * 658911831)).fdiv (2 ^ 22))) (IntKind.i64.wrap (IntKind.i64.wrap (IntKind.i64.wrap (r * 2620088056) * 2 ^ 9) + (IntKind.i64.wrap (r * 658911831)).fdiv (2 ^ 22))) =
 hiI (IntKind.i64.wrap (IntKind.i64.wrap (IntKind.i64.wrap (r * 2620088056) * 2 ^ 9) + (IntKind.i64.wrap (r * 658911831)).fdiv (2 ^ 22))) (IntKind.i64.wrap (IntKind.i64.wrap (IntKind.i64.wrap (r * 2620088056) * 2 ^ 9) + (IntKind.i64.wrap (r * 658911831)).fdiv (2 ^ 22))) ∧
 IntKind.i64.wrap
 ((hiI (IntKind.i64.wrap ((hiI (↑s.3 : Int) (hiI (IntKind.i64.wrap (IntKind.i64.wrap (IntKind.i64.wrap (r * 2620088056) * 2 ^ 9) + (IntKind.i64.wrap (r * 658911831)).fdiv (2 ^ 22))) (IntKind.i64.wrap (IntKind.i64.wrap (IntKind.i64.wrap (r * 2620088056) * 2 ^ 9) + (IntKind.i64.wrap (r * 658911831)).fdiv (2 ^ 22))))).tdiv (IntKind.i64.wrap ((↑s.4 : Int) * IntKind.i64.wrap ((↑s.4 : Int) + 1)))))
 (hiI (IntKind.i64.wrap (IntKind.i64.wrap (IntKind.i64.wrap (r * 2620088056) * 2 ^ 9) + (IntKind.i64.wrap (r * 658911831)).fdiv (2 ^ 22))) (IntKind.i64.wrap (IntKind.i64.wrap (IntKind.i64.wrap (r * 2620088056) * 2 ^ 9) + (IntKind.i64.wrap (r * 658911831)).fdiv (2 ^ 22))))).tdiv
 (IntKind.i64.wrap (IntKind.i64.wrap ((↑s.4 : Int) + 2) * IntKind.i64.wrap ((↑s.4 : Int) + 3)))) =
 (↑s_1.3 : Int) ∧
 IntKind.i64.wrap ((↑s.4 : Int) + 4) = (↑s_1.4 : Int) ∧
 IntKind.i64.wrap
 (IntKind.i64.wrap (s.2 + (↑s.3 : Int)) -
 IntKind.i64.wrap ((hiI (↑s.3 : Int) (hiI (IntKind.i64.wrap (IntKind.i64.wrap (IntKind.i64.wrap (r * 2620088056) * 2 ^ 9) + (IntKind.i64.wrap (r * 658911831)).fdiv (2 ^ 22))) (IntKind.i64.wrap (IntKind.i64.wrap (IntKind.i64.wrap (r * 2620088056) * 2 ^ 9) + (IntKind.i64.wrap (r * 658911831)).fdiv (2 ^ 22))))).tdiv (IntKind.i64.wrap ((↑s.4 : Int) * IntKind.i64.wrap ((↑s.4 : Int) + 1))))) =
 s_1.2 ∧
 True) ∧
 QkR T sq s_1.1 s_1.2 s_1.3 s_1.4 ∧ s_1.1 < s.1)))
 (K (Value.int IntKind.i64 s.2)))) := by kernel_rfl
theorem vc_r6Quick (n : Int) (K : Value → Prop) : callsX Tryz.prog (ΓQ2) (noAnn) 101 [.int .i64 n] K = (
 bcase (decide (n.tmod 21600000 < 0))
 (bcase (decide ((IntKind.i64.wrap (n.tmod 21600000 + 21600000)).tmod 5400000 > 2700000))
 ((0 ≤ IntKind.i64.wrap (5400000 - (IntKind.i64.wrap (n.tmod 21600000 + 21600000)).tmod 5400000) ∧ IntKind.i64.wrap (5400000 - (IntKind.i64.wrap (n.tmod 21600000 + 21600000)).tmod 5400000) ≤ 2700000) ∧
 bcase (decide (IntKind.i64.wrap ((IntKind.i64.wrap (n.tmod 21600000 + 21600000)).tdiv 5400000) ≥ 2)) (K (Value.int IntKind.i64 (IntKind.i64.wrap (0 - qqI (IntKind.i64.wrap (5400000 - (IntKind.i64.wrap (n.tmod 21600000 + 21600000)).tmod 5400000)) !(IntKind.i64.wrap ((IntKind.i64.wrap (n.tmod 21600000 + 21600000)).tdiv 5400000)).tmod 2 == 1))))
 (K (Value.int IntKind.i64 (qqI (IntKind.i64.wrap (5400000 - (IntKind.i64.wrap (n.tmod 21600000 + 21600000)).tmod 5400000)) !(IntKind.i64.wrap ((IntKind.i64.wrap (n.tmod 21600000 + 21600000)).tdiv 5400000)).tmod 2 == 1))))
 ((0 ≤ (IntKind.i64.wrap (n.tmod 21600000 + 21600000)).tmod 5400000 ∧ (IntKind.i64.wrap (n.tmod 21600000 + 21600000)).tmod 5400000 ≤ 2700000) ∧
 bcase (decide (IntKind.i64.wrap ((IntKind.i64.wrap (n.tmod 21600000 + 21600000)).tdiv 5400000) ≥ 2)) (K (Value.int IntKind.i64 (IntKind.i64.wrap (0 - qqI ((IntKind.i64.wrap (n.tmod 21600000 + 21600000)).tmod 5400000) ((IntKind.i64.wrap ((IntKind.i64.wrap (n.tmod 21600000 + 21600000)).tdiv 5400000)).tmod 2 == 1)))))
 (K (Value.int IntKind.i64 (qqI ((IntKind.i64.wrap (n.tmod 21600000 + 21600000)).tmod 5400000) ((IntKind.i64.wrap ((IntKind.i64.wrap (n.tmod 21600000 + 21600000)).tdiv 5400000)).tmod 2 == 1))))))
 (bcase (decide ((n.tmod 21600000).tmod 5400000 > 2700000))
 ((0 ≤ IntKind.i64.wrap (5400000 - (n.tmod 21600000).tmod 5400000) ∧ IntKind.i64.wrap (5400000 - (n.tmod 21600000).tmod 5400000) ≤ 2700000) ∧
 bcase (decide (IntKind.i64.wrap ((n.tmod 21600000).tdiv 5400000) ≥ 2)) (K (Value.int IntKind.i64 (IntKind.i64.wrap (0 - qqI (IntKind.i64.wrap (5400000 - (n.tmod 21600000).tmod 5400000)) !(IntKind.i64.wrap ((n.tmod 21600000).tdiv 5400000)).tmod 2 == 1))))
 (K (Value.int IntKind.i64 (qqI (IntKind.i64.wrap (5400000 - (n.tmod 21600000).tmod 5400000)) !(IntKind.i64.wrap ((n.tmod 21600000).tdiv 5400000)).tmod 2 == 1))))
 ((0 ≤ (n.tmod 21600000).tmod 5400000 ∧ (n.tmod 21600000).tmod 5400000 ≤ 2700000) ∧
 bcase (decide (IntKind.i64.wrap ((n.tmod 21600000).tdiv 5400000) ≥ 2)) (K (Value.int IntKind.i64 (IntKind.i64.wrap (0 - qqI ((n.tmod 21600000).tmod 5400000) ((IntKind.i64.wrap ((n.tmod 21600000).tdiv 5400000)).tmod 2 == 1))))) (K (Value.int IntKind.i64 (qqI ((n.tmod 21600000).tmod 5400000) ((IntKind.i64.wrap ((n.tmod 21600000).tdiv 5400000)).tmod 2 == 1))))))) := by kernel_rfl
theorem vc_r6Exact (n : Int) (K : Value → Prop) : callsX Tryz.prog ([]) (noAnn) 100 [.int .i64 n] K = (
 bcase (decide (n.tmod 21600000 < 0))
 (bcase ((IntKind.i64.wrap (n.tmod 21600000 + 21600000)).tmod 1800000 != 0) (K (Value.tuple #[Value.int IntKind.i64 0, Value.bool false]))
 (bcase ((IntKind.i64.wrap ((IntKind.i64.wrap (n.tmod 21600000 + 21600000)).tdiv 1800000)).tmod 3 == 0)
 (bcase (inB (IntKind.i64.wrap ((IntKind.i64.wrap ((IntKind.i64.wrap (n.tmod 21600000 + 21600000)).tdiv 1800000)).tdiv 3)) 4)
 (bcase (IntKind.i64.wrap ((IntKind.i64.wrap ((IntKind.i64.wrap (n.tmod 21600000 + 21600000)).tdiv 1800000)).tdiv 3) == (↑3 : Int)) (K (Value.tuple #[Value.int IntKind.i64 (IntKind.i64.wrap (-1 * 1073741824)), Value.bool true]))
 (bcase (IntKind.i64.wrap ((IntKind.i64.wrap ((IntKind.i64.wrap (n.tmod 21600000 + 21600000)).tdiv 1800000)).tdiv 3) == (↑2 : Int)) (K (Value.tuple #[Value.int IntKind.i64 (IntKind.i64.wrap (0 * 1073741824)), Value.bool true]))
 (bcase (IntKind.i64.wrap ((IntKind.i64.wrap ((IntKind.i64.wrap (n.tmod 21600000 + 21600000)).tdiv 1800000)).tdiv 3) == (↑1 : Int)) (K (Value.tuple #[Value.int IntKind.i64 (IntKind.i64.wrap (1 * 1073741824)), Value.bool true]))
 (bcase (IntKind.i64.wrap ((IntKind.i64.wrap ((IntKind.i64.wrap (n.tmod 21600000 + 21600000)).tdiv 1800000)).tdiv 3) == (↑0 : Int)) (K (Value.tuple #[Value.int IntKind.i64 (IntKind.i64.wrap (0 * 1073741824)), Value.bool true])) False))))
 False)
 (bcase ((IntKind.i64.wrap ((IntKind.i64.wrap (n.tmod 21600000 + 21600000)).tdiv 1800000)).tmod 6 == 2) (K (Value.tuple #[Value.int IntKind.i64 0, Value.bool false]))
 (bcase ((IntKind.i64.wrap ((IntKind.i64.wrap (n.tmod 21600000 + 21600000)).tdiv 1800000)).tmod 6 == 4) (K (Value.tuple #[Value.int IntKind.i64 0, Value.bool false]))
 (bcase (inB (IntKind.i64.wrap ((IntKind.i64.wrap (n.tmod 21600000 + 21600000)).tdiv 1800000)) 12)
 (bcase (IntKind.i64.wrap ((IntKind.i64.wrap (n.tmod 21600000 + 21600000)).tdiv 1800000) == (↑11 : Int)) (K (Value.tuple #[Value.int IntKind.i64 (IntKind.i64.wrap (-1 * 536870912)), Value.bool true]))
 (bcase (IntKind.i64.wrap ((IntKind.i64.wrap (n.tmod 21600000 + 21600000)).tdiv 1800000) == (↑10 : Int)) (K (Value.tuple #[Value.int IntKind.i64 (IntKind.i64.wrap (-2 * 536870912)), Value.bool true]))
 (bcase (IntKind.i64.wrap ((IntKind.i64.wrap (n.tmod 21600000 + 21600000)).tdiv 1800000) == (↑9 : Int)) (K (Value.tuple #[Value.int IntKind.i64 (IntKind.i64.wrap (-2 * 536870912)), Value.bool true]))
 (bcase (IntKind.i64.wrap ((IntKind.i64.wrap (n.tmod 21600000 + 21600000)).tdiv 1800000) == (↑8 : Int)) (K (Value.tuple #[Value.int IntKind.i64 (IntKind.i64.wrap (-2 * 536870912)), Value.bool true]))
 (bcase (IntKind.i64.wrap ((IntKind.i64.wrap (n.tmod 21600000 + 21600000)).tdiv 1800000) == (↑7 : Int)) (K (Value.tuple #[Value.int IntKind.i64 (IntKind.i64.wrap (-1 * 536870912)), Value.bool true]))
 (bcase (IntKind.i64.wrap ((IntKind.i64.wrap (n.tmod 21600000 + 21600000)).tdiv 1800000) == (↑6 : Int)) (K (Value.tuple #[Value.int IntKind.i64 (IntKind.i64.wrap (0 * 536870912)), Value.bool true]))
 (bcase (IntKind.i64.wrap ((IntKind.i64.wrap (n.tmod 21600000 + 21600000)).tdiv 1800000) == (↑5 : Int)) (K (Value.tuple #[Value.int IntKind.i64 (IntKind.i64.wrap (1 * 536870912)), Value.bool true]))
 (bcase (IntKind.i64.wrap ((IntKind.i64.wrap (n.tmod 21600000 + 21600000)).tdiv 1800000) == (↑4 : Int)) (K (Value.tuple #[Value.int IntKind.i64 (IntKind.i64.wrap (2 * 536870912)), Value.bool true]))
 (bcase (IntKind.i64.wrap ((IntKind.i64.wrap (n.tmod 21600000 + 21600000)).tdiv 1800000) == (↑3 : Int)) (K (Value.tuple #[Value.int IntKind.i64 (IntKind.i64.wrap (2 * 536870912)), Value.bool true]))
 (bcase (IntKind.i64.wrap ((IntKind.i64.wrap (n.tmod 21600000 + 21600000)).tdiv 1800000) == (↑2 : Int)) (K (Value.tuple #[Value.int IntKind.i64 (IntKind.i64.wrap (2 * 536870912)), Value.bool true]))
 (bcase (IntKind.i64.wrap ((IntKind.i64.wrap (n.tmod 21600000 + 21600000)).tdiv 1800000) == (↑1 : Int)) (K (Value.tuple #[Value.int IntKind.i64 (IntKind.i64.wrap (1 * 536870912)), Value.bool true]))
 (bcase (IntKind.i64.wrap ((IntKind.i64.wrap (n.tmod 21600000 + 21600000)).tdiv 1800000) == (↑0 : Int)) (K (Value.tuple #[Value.int IntKind.i64 (IntKind.i64.wrap (0 * 536870912)), Value.bool true])) False))))))))))))
 False)))))
 (bcase ((n.tmod 21600000).tmod 1800000 != 0) (K (Value.tuple #[Value.int IntKind.i64 0, Value.bool false]))
 (bcase ((IntKind.i64.wrap ((n.tmod 21600000).tdiv 1800000)).tmod 3 == 0)
 (bcase (inB (IntKind.i64.wrap ((IntKind.i64.wrap ((n.tmod 21600000).tdiv 1800000)).tdiv 3)) 4)
 (bcase (IntKind.i64.wrap ((IntKind.i64.wrap ((n.tmod 21600000).tdiv 1800000)).tdiv 3) == (↑3 : Int)) (K (Value.tuple #[Value.int IntKind.i64 (IntKind.i64.wrap (-1 * 1073741824)), Value.bool true]))
 (bcase (IntKind.i64.wrap ((IntKind.i64.wrap ((n.tmod 21600000).tdiv 1800000)).tdiv 3) == (↑2 : Int)) (K (Value.tuple #[Value.int IntKind.i64 (IntKind.i64.wrap (0 * 1073741824)), Value.bool true]))
 (bcase (IntKind.i64.wrap ((IntKind.i64.wrap ((n.tmod 21600000).tdiv 1800000)).tdiv 3) == (↑1 : Int)) (K (Value.tuple #[Value.int IntKind.i64 (IntKind.i64.wrap (1 * 1073741824)), Value.bool true]))
 (bcase (IntKind.i64.wrap ((IntKind.i64.wrap ((n.tmod 21600000).tdiv 1800000)).tdiv 3) == (↑0 : Int)) (K (Value.tuple #[Value.int IntKind.i64 (IntKind.i64.wrap (0 * 1073741824)), Value.bool true])) False))))
 False)
 (bcase ((IntKind.i64.wrap ((n.tmod 21600000).tdiv 1800000)).tmod 6 == 2) (K (Value.tuple #[Value.int IntKind.i64 0, Value.bool false]))
 (bcase ((IntKind.i64.wrap ((n.tmod 21600000).tdiv 1800000)).tmod 6 == 4) (K (Value.tuple #[Value.int IntKind.i64 0, Value.bool false]))
 (bcase (inB (IntKind.i64.wrap ((n.tmod 21600000).tdiv 1800000)) 12)
 (bcase (IntKind.i64.wrap ((n.tmod 21600000).tdiv 1800000) == (↑11 : Int)) (K (Value.tuple #[Value.int IntKind.i64 (IntKind.i64.wrap (-1 * 536870912)), Value.bool true]))
 (bcase (IntKind.i64.wrap ((n.tmod 21600000).tdiv 1800000) == (↑10 : Int)) (K (Value.tuple #[Value.int IntKind.i64 (IntKind.i64.wrap (-2 * 536870912)), Value.bool true]))
 (bcase (IntKind.i64.wrap ((n.tmod 21600000).tdiv 1800000) == (↑9 : Int)) (K (Value.tuple #[Value.int IntKind.i64 (IntKind.i64.wrap (-2 * 536870912)), Value.bool true]))
 (bcase (IntKind.i64.wrap ((n.tmod 21600000).tdiv 1800000) == (↑8 : Int)) (K (Value.tuple #[Value.int IntKind.i64 (IntKind.i64.wrap (-2 * 536870912)), Value.bool true]))
 (bcase (IntKind.i64.wrap ((n.tmod 21600000).tdiv 1800000) == (↑7 : Int)) (K (Value.tuple #[Value.int IntKind.i64 (IntKind.i64.wrap (-1 * 536870912)), Value.bool true]))
 (bcase (IntKind.i64.wrap ((n.tmod 21600000).tdiv 1800000) == (↑6 : Int)) (K (Value.tuple #[Value.int IntKind.i64 (IntKind.i64.wrap (0 * 536870912)), Value.bool true]))
 (bcase (IntKind.i64.wrap ((n.tmod 21600000).tdiv 1800000) == (↑5 : Int)) (K (Value.tuple #[Value.int IntKind.i64 (IntKind.i64.wrap (1 * 536870912)), Value.bool true]))
 (bcase (IntKind.i64.wrap ((n.tmod 21600000).tdiv 1800000) == (↑4 : Int)) (K (Value.tuple #[Value.int IntKind.i64 (IntKind.i64.wrap (2 * 536870912)), Value.bool true]))
 (bcase (IntKind.i64.wrap ((n.tmod 21600000).tdiv 1800000) == (↑3 : Int)) (K (Value.tuple #[Value.int IntKind.i64 (IntKind.i64.wrap (2 * 536870912)), Value.bool true]))
 (bcase (IntKind.i64.wrap ((n.tmod 21600000).tdiv 1800000) == (↑2 : Int)) (K (Value.tuple #[Value.int IntKind.i64 (IntKind.i64.wrap (2 * 536870912)), Value.bool true]))
 (bcase (IntKind.i64.wrap ((n.tmod 21600000).tdiv 1800000) == (↑1 : Int)) (K (Value.tuple #[Value.int IntKind.i64 (IntKind.i64.wrap (1 * 536870912)), Value.bool true])) (bcase (IntKind.i64.wrap ((n.tmod 21600000).tdiv 1800000) == (↑0 : Int)) (K (Value.tuple #[Value.int IntKind.i64 (IntKind.i64.wrap (0 * 536870912)), Value.bool true])) False))))))))))))
 False)))))) := by kernel_rfl
theorem vc_r6Floor (n : Int) (K : Value → Prop) : callsX Tryz.prog (ΓQf) (once) 84 [.int .i64 n] K = (
 I64 n ∧ bcase (exN n) (K (Value.tuple #[Value.int IntKind.i64 (if exN n = true then loI n else 0), Value.bool true])) (I64 n ∧ bcase ((IntKind.i64.wrap (quickI n - 256)).fdiv (2 ^ 32) == (IntKind.i64.wrap (quickI n + 256)).fdiv (2 ^ 32)) (K (Value.tuple #[Value.int IntKind.i64 ((quickI n).fdiv (2 ^ 32)), Value.bool false])) (False ∧ False))) := by kernel_rfl
end Go.Proofs.YtidhogcijghogaaGreatDoor
