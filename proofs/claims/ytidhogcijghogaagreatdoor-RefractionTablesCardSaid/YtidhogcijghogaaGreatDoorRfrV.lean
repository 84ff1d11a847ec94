/- Refraction: what the functions of the program ask. -/
import Derived.Test.YtidhogcijghogaaGreatDoorRfrS
namespace Go.Proofs.YtidhogcijghogaaGreatDoor
open Go Go.Abs Go.RowKit
set_option linter.unusedVariables false
set_option linter.unusedSimpArgs false
theorem vc_anvalid5 (a b : Int) (K : Value → Prop) : callsX Tryz.prog ([]) (noAnn) 23 [wid a b] K = (
 bcase (decide (a ≤ b)) (bcase (decide (a ≥ -1099511627776)) (bcase (decide (a ≤ 1099511627776)) (bcase (decide (b ≥ -1099511627776)) (K (Value.bool (decide (b ≤ 1099511627776)))) (K (Value.bool false))) (K (Value.bool false))) (K (Value.bool false))) (K (Value.bool false))) := by kernel_rfl
theorem vc_rfbent (u : Int) (K : Value → Prop) : callsX Tryz.prog ([]) (noAnn) 25 [num u] K = (
 bcase (IntKind.i64.wrap (u + 264000) == 0) False
 (bcase (IntKind.i64.wrap (u + 264000) == 0) False
 (bcase (Int.tmod 26316000000 (IntKind.i64.wrap (u + 264000)) != 0) (K (Value.agg #[Value.int IntKind.i64 (IntKind.i64.wrap (u + IntKind.i64.wrap (Int.tdiv 26316000000 (IntKind.i64.wrap (u + 264000))))), Value.int IntKind.i64 (IntKind.i64.wrap (IntKind.i64.wrap (u + IntKind.i64.wrap (Int.tdiv 26316000000 (IntKind.i64.wrap (u + 264000)))) + 1))]))
 (K (Value.agg #[Value.int IntKind.i64 (IntKind.i64.wrap (u + IntKind.i64.wrap (Int.tdiv 26316000000 (IntKind.i64.wrap (u + 264000))))), Value.int IntKind.i64 (IntKind.i64.wrap (u + IntKind.i64.wrap (Int.tdiv 26316000000 (IntKind.i64.wrap (u + 264000)))))]))))) := by kernel_rfl
theorem vc_rfone (u : Int) (K : Value → Prop) : callsX Tryz.prog (ΓRo) (noAnn) 13 [num u] K = (
 RU u ∧
 ArcV (bL u) (bH u) ∧
 ArcV (bL u) (bH u) ∧
 QuoP (cL (bL u) (bH u)) (cH (bL u) (bH u)) (encL (bL u) (bH u)) (encH (bL u) (bH u)) 1000 ∧
 K
 (Value.agg
 #[Value.int IntKind.i64 (gate (okF (cL (bL u) (bH u)) (cH (bL u) (bH u)) (encL (bL u) (bH u)) (encH (bL u) (bH u)) 1000) (qL (cL (bL u) (bH u)) (cH (bL u) (bH u)) (encL (bL u) (bH u)) (encH (bL u) (bH u)) 1000)),
 Value.int IntKind.i64 (gate (okF (cL (bL u) (bH u)) (cH (bL u) (bH u)) (encL (bL u) (bH u)) (encH (bL u) (bH u)) 1000) (qH (cL (bL u) (bH u)) (cH (bL u) (bH u)) (encL (bL u) (bH u)) (encH (bL u) (bH u)) 1000))])) := by kernel_rfl
theorem vc_rfmean (a b : Int) (K : Value → Prop) : callsX Tryz.prog (ΓRm) (noAnn) 18 [wid a b] K = (
 RU b ∧ RU a ∧ K (Value.agg #[Value.int IntKind.i64 (oneL b), Value.int IntKind.i64 (oneH a)])) := by kernel_rfl
theorem vc_rfcheck (a b : Int) (K : Value → Prop) : callsX Tryz.prog (ΓRv) (noAnn) 17 [wid a b] K = (
 True ∧ bcase (!decide (ArcV a b)) (K (Value.int IntKind.i64 1)) (bcase (decide (a < -60000)) (K (Value.int IntKind.i64 2)) (bcase (decide (b > 5400000)) (K (Value.int IntKind.i64 2)) (K (Value.int IntKind.i64 0))))) := by kernel_rfl
theorem vc_rfMean (a b : Int) (K : Value → Prop) : callsX Tryz.prog (ΓRM) (noAnn) 8 [wid a b] K = (
 True ∧ bcase (chkE a b != 0) (K (Value.tuple #[Value.agg #[Value.int IntKind.i64 0, Value.int IntKind.i64 0], Value.int IntKind.i64 (chkE a b)])) (okA a b ∧ K (Value.tuple #[Value.agg #[Value.int IntKind.i64 (oneL b), Value.int IntKind.i64 (oneH a)], Value.int IntKind.i64 0]))) := by kernel_rfl
theorem vc_rfweather (t p : Int) (K : Value → Prop) : callsX Tryz.prog ([]) (noAnn) 19 [num t, num p] K = (
 bcase (decide (t ≥ -500)) (bcase (decide (t ≤ 600)) (bcase (decide (p ≥ 5000)) (K (Value.bool (decide (p ≤ 11000)))) (K (Value.bool false))) (K (Value.bool false))) (K (Value.bool false))) := by kernel_rfl
theorem vc_ragcd (a b : Int) (K : Value → Prop) : callsX Tryz.prog ([]) (fun _ => [(0, .ann (annGcd a b))]) 36 [.int .u64 a, .int .u64 b] K = (
 ∃ (s : Int × Int),
 (a = s.fst ∧ b = s.snd ∧ True) ∧
 (U64 s.fst ∧ U64 s.snd ∧ s.fst.toNat.gcd s.snd.toNat = a.toNat.gcd b.toNat) ∧
 ∀ (s : Int × Int), U64 s.fst ∧ U64 s.snd ∧ s.fst.toNat.gcd s.snd.toNat = a.toNat.gcd b.toNat → bcase (s.snd != 0) (bcase (s.snd == 0) False (∃ (s_1 : Int × Int), (s.snd = s_1.fst ∧ s.fst.tmod s.snd = s_1.snd ∧ True) ∧ (U64 s_1.fst ∧ U64 s_1.snd ∧ s_1.fst.toNat.gcd s_1.snd.toNat = a.toNat.gcd b.toNat) ∧ s_1.snd.toNat < s.snd.toNat)) (K (Value.int IntKind.u64 s.fst))) := by kernel_rfl
theorem vc_ramake (a b : Int) (K : Value → Prop) : callsX Tryz.prog (ΓRg) (noAnn) 20 [num a, num b] K = (
 bcase (b == 0) (K (Value.tuple #[Value.agg #[Value.int IntKind.i64 0, Value.int IntKind.i64 0], Value.int IntKind.i64 16]))
 (bcase (decide (a < 0))
 (bcase (decide (b < 0))
 ((U64 (IntKind.u64.wrap (0 - IntKind.u64.wrap a)) ∧ U64 (IntKind.u64.wrap (0 - IntKind.u64.wrap b))) ∧
 bcase ((↑((IntKind.u64.wrap (0 - IntKind.u64.wrap a)).toNat.gcd (IntKind.u64.wrap (0 - IntKind.u64.wrap b)).toNat) : Int) == 0) False
 (bcase ((↑((IntKind.u64.wrap (0 - IntKind.u64.wrap a)).toNat.gcd (IntKind.u64.wrap (0 - IntKind.u64.wrap b)).toNat) : Int) == 0) False
 (bcase (decide (IntKind.u64.wrap ((IntKind.u64.wrap (0 - IntKind.u64.wrap a)).tdiv (↑((IntKind.u64.wrap (0 - IntKind.u64.wrap a)).toNat.gcd (IntKind.u64.wrap (0 - IntKind.u64.wrap b)).toNat) : Int)) > 1073741824)) (K (Value.tuple #[Value.agg #[Value.int IntKind.i64 0, Value.int IntKind.i64 0], Value.int IntKind.i64 5]))
 (bcase (decide (IntKind.u64.wrap ((IntKind.u64.wrap (0 - IntKind.u64.wrap b)).tdiv (↑((IntKind.u64.wrap (0 - IntKind.u64.wrap a)).toNat.gcd (IntKind.u64.wrap (0 - IntKind.u64.wrap b)).toNat) : Int)) > 1073741824)) (K (Value.tuple #[Value.agg #[Value.int IntKind.i64 0, Value.int IntKind.i64 0], Value.int IntKind.i64 5]))
 (bcase (!decide (a < 0) == decide (b < 0))
 (K
 (Value.tuple
 #[Value.agg
 #[Value.int IntKind.i64 (IntKind.i64.wrap (0 - IntKind.i64.wrap (IntKind.u64.wrap ((IntKind.u64.wrap (0 - IntKind.u64.wrap a)).tdiv (↑((IntKind.u64.wrap (0 - IntKind.u64.wrap a)).toNat.gcd (IntKind.u64.wrap (0 - IntKind.u64.wrap b)).toNat) : Int))))),
 Value.int IntKind.i64 (IntKind.i64.wrap (IntKind.u64.wrap ((IntKind.u64.wrap (0 - IntKind.u64.wrap b)).tdiv (↑((IntKind.u64.wrap (0 - IntKind.u64.wrap a)).toNat.gcd (IntKind.u64.wrap (0 - IntKind.u64.wrap b)).toNat) : Int))))],
 Value.int IntKind.i64 0]))
 (K
 (Value.tuple
 #[Value.agg
 #[Value.int IntKind.i64 (IntKind.i64.wrap (IntKind.u64.wrap ((IntKind.u64.wrap (0 - IntKind.u64.wrap a)).tdiv (↑((IntKind.u64.wrap (0 - IntKind.u64.wrap a)).toNat.gcd (IntKind.u64.wrap (0 - IntKind.u64.wrap b)).toNat) : Int)))),
 Value.int IntKind.i64 (IntKind.i64.wrap (IntKind.u64.wrap ((IntKind.u64.wrap (0 - IntKind.u64.wrap b)).tdiv (↑((IntKind.u64.wrap (0 - IntKind.u64.wrap a)).toNat.gcd (IntKind.u64.wrap (0 - IntKind.u64.wrap b)).toNat) : Int))))],
 Value.int IntKind.i64 0])))))))
 ((U64 (IntKind.u64.wrap (0 - IntKind.u64.wrap a)) ∧ U64 (IntKind.u64.wrap b)) ∧
 bcase ((↑((IntKind.u64.wrap (0 - IntKind.u64.wrap a)).toNat.gcd (IntKind.u64.wrap b).toNat) : Int) == 0) False
 (bcase ((↑((IntKind.u64.wrap (0 - IntKind.u64.wrap a)).toNat.gcd (IntKind.u64.wrap b).toNat) : Int) == 0) False
 (bcase (decide (IntKind.u64.wrap ((IntKind.u64.wrap (0 - IntKind.u64.wrap a)).tdiv (↑((IntKind.u64.wrap (0 - IntKind.u64.wrap a)).toNat.gcd (IntKind.u64.wrap b).toNat) : Int)) > 1073741824)) (K (Value.tuple #[Value.agg #[Value.int IntKind.i64 0, Value.int IntKind.i64 0], Value.int IntKind.i64 5]))
 (bcase (decide (IntKind.u64.wrap ((IntKind.u64.wrap b).tdiv (↑((IntKind.u64.wrap (0 - IntKind.u64.wrap a)).toNat.gcd (IntKind.u64.wrap b).toNat) : Int)) > 1073741824)) (K (Value.tuple #[Value.agg #[Value.int IntKind.i64 0, Value.int IntKind.i64 0], Value.int IntKind.i64 5]))
 (bcase (!decide (a < 0) == decide (b < 0))
 (K
 (Value.tuple
 #[Value.agg
 #[Value.int IntKind.i64 (IntKind.i64.wrap (0 - IntKind.i64.wrap (IntKind.u64.wrap ((IntKind.u64.wrap (0 - IntKind.u64.wrap a)).tdiv (↑((IntKind.u64.wrap (0 - IntKind.u64.wrap a)).toNat.gcd (IntKind.u64.wrap b).toNat) : Int))))),
 Value.int IntKind.i64 (IntKind.i64.wrap (IntKind.u64.wrap ((IntKind.u64.wrap b).tdiv (↑((IntKind.u64.wrap (0 - IntKind.u64.wrap a)).toNat.gcd (IntKind.u64.wrap b).toNat) : Int))))],
 Value.int IntKind.i64 0]))
 (K
 (Value.tuple
 #[Value.agg #[Value.int IntKind.i64 (IntKind.i64.wrap (IntKind.u64.wrap ((IntKind.u64.wrap (0 - IntKind.u64.wrap a)).tdiv (↑((IntKind.u64.wrap (0 - IntKind.u64.wrap a)).toNat.gcd (IntKind.u64.wrap b).toNat) : Int)))), Value.int IntKind.i64 (IntKind.i64.wrap (IntKind.u64.wrap ((IntKind.u64.wrap b).tdiv (↑((IntKind.u64.wrap (0 - IntKind.u64.wrap a)).toNat.gcd (IntKind.u64.wrap b).toNat) : Int))))],
 Value.int IntKind.i64 0]))))))))
 (bcase (decide (b < 0))
 ((U64 (IntKind.u64.wrap a) ∧ U64 (IntKind.u64.wrap (0 - IntKind.u64.wrap b))) ∧
 bcase ((↑((IntKind.u64.wrap a).toNat.gcd (IntKind.u64.wrap (0 - IntKind.u64.wrap b)).toNat) : Int) == 0) False
 (bcase ((↑((IntKind.u64.wrap a).toNat.gcd (IntKind.u64.wrap (0 - IntKind.u64.wrap b)).toNat) : Int) == 0) False
 (bcase (decide (IntKind.u64.wrap ((IntKind.u64.wrap a).tdiv (↑((IntKind.u64.wrap a).toNat.gcd (IntKind.u64.wrap (0 - IntKind.u64.wrap b)).toNat) : Int)) > 1073741824)) (K (Value.tuple #[Value.agg #[Value.int IntKind.i64 0, Value.int IntKind.i64 0], Value.int IntKind.i64 5]))
 (bcase (decide (IntKind.u64.wrap ((IntKind.u64.wrap (0 - IntKind.u64.wrap b)).tdiv (↑((IntKind.u64.wrap a).toNat.gcd (IntKind.u64.wrap (0 - IntKind.u64.wrap b)).toNat) : Int)) > 1073741824)) (K (Value.tuple #[Value.agg #[Value.int IntKind.i64 0, Value.int IntKind.i64 0], Value.int IntKind.i64 5]))
 (bcase (!decide (a < 0) == decide (b < 0))
 (K
 (Value.tuple
 #[Value.agg
 #[Value.int IntKind.i64 (IntKind.i64.wrap (0 - IntKind.i64.wrap (IntKind.u64.wrap ((IntKind.u64.wrap a).tdiv (↑((IntKind.u64.wrap a).toNat.gcd (IntKind.u64.wrap (0 - IntKind.u64.wrap b)).toNat) : Int))))),
 Value.int IntKind.i64 (IntKind.i64.wrap (IntKind.u64.wrap ((IntKind.u64.wrap (0 - IntKind.u64.wrap b)).tdiv (↑((IntKind.u64.wrap a).toNat.gcd (IntKind.u64.wrap (0 - IntKind.u64.wrap b)).toNat) : Int))))],
 Value.int IntKind.i64 0]))
 (K
 (Value.tuple
 #[Value.agg #[Value.int IntKind.i64 (IntKind.i64.wrap (IntKind.u64.wrap ((IntKind.u64.wrap a).tdiv (↑((IntKind.u64.wrap a).toNat.gcd (IntKind.u64.wrap (0 - IntKind.u64.wrap b)).toNat) : Int)))), Value.int IntKind.i64 (IntKind.i64.wrap (IntKind.u64.wrap ((IntKind.u64.wrap (0 - IntKind.u64.wrap b)).tdiv (↑((IntKind.u64.wrap a).toNat.gcd (IntKind.u64.wrap (0 - IntKind.u64.wrap b)).toNat) : Int))))],
 Value.int IntKind.i64 0])))))))
 ((U64 (IntKind.u64.wrap a) ∧ U64 (IntKind.u64.wrap b)) ∧
 bcase ((↑((IntKind.u64.wrap a).toNat.gcd (IntKind.u64.wrap b).toNat) : Int) == 0) False
 (bcase ((↑((IntKind.u64.wrap a).toNat.gcd (IntKind.u64.wrap b).toNat) : Int) == 0) False
 (bcase (decide (IntKind.u64.wrap ((IntKind.u64.wrap a).tdiv (↑((IntKind.u64.wrap a).toNat.gcd (IntKind.u64.wrap b).toNat) : Int)) > 1073741824)) (K (Value.tuple #[Value.agg #[Value.int IntKind.i64 0, Value.int IntKind.i64 0], Value.int IntKind.i64 5]))
 (bcase (decide (IntKind.u64.wrap ((IntKind.u64.wrap b).tdiv (↑((IntKind.u64.wrap a).toNat.gcd (IntKind.u64.wrap b).toNat) : Int)) > 1073741824)) (K (Value.tuple #[Value.agg #[Value.int IntKind.i64 0, Value.int IntKind.i64 0], Value.int IntKind.i64 5]))
 (bcase (!decide (a < 0) == decide (b < 0))
 (K (Value.tuple #[Value.agg #[Value.int IntKind.i64 (IntKind.i64.wrap (0 - IntKind.i64.wrap (IntKind.u64.wrap ((IntKind.u64.wrap a).tdiv (↑((IntKind.u64.wrap a).toNat.gcd (IntKind.u64.wrap b).toNat) : Int))))), Value.int IntKind.i64 (IntKind.i64.wrap (IntKind.u64.wrap ((IntKind.u64.wrap b).tdiv (↑((IntKind.u64.wrap a).toNat.gcd (IntKind.u64.wrap b).toNat) : Int))))], Value.int IntKind.i64 0]))
 (K (Value.tuple #[Value.agg #[Value.int IntKind.i64 (IntKind.i64.wrap (IntKind.u64.wrap ((IntKind.u64.wrap a).tdiv (↑((IntKind.u64.wrap a).toNat.gcd (IntKind.u64.wrap b).toNat) : Int)))), Value.int IntKind.i64 (IntKind.i64.wrap (IntKind.u64.wrap ((IntKind.u64.wrap b).tdiv (↑((IntKind.u64.wrap a).toNat.gcd (IntKind.u64.wrap b).toNat) : Int))))], Value.int IntKind.i64 0])))))))))) := by kernel_rfl
theorem vc_rffactor (t p : Int) (K : Value → Prop) : callsX Tryz.prog (ΓRf) (noAnn) 9 [num t, num p] K = (
 True ∧
 bcase (!decide (Wth t p)) (K (Value.tuple #[Value.agg #[Value.int IntKind.i64 0, Value.int IntKind.i64 0], Value.int IntKind.i64 2]))
 ((1 ≤ IntKind.i64.wrap (283 * p) ∧ IntKind.i64.wrap (283 * p) ≤ 4000000 ∧ 1 ≤ IntKind.i64.wrap (1010 * IntKind.i64.wrap (2730 + t)) ∧ IntKind.i64.wrap (1010 * IntKind.i64.wrap (2730 + t)) ≤ 4000000) ∧
 K
 (Value.tuple
 #[Value.agg #[Value.int IntKind.i64 (IntKind.i64.wrap (283 * p) / (↑((IntKind.i64.wrap (283 * p)).toNat.gcd (IntKind.i64.wrap (1010 * IntKind.i64.wrap (2730 + t))).toNat) : Int)), Value.int IntKind.i64 (IntKind.i64.wrap (1010 * IntKind.i64.wrap (2730 + t)) / (↑((IntKind.i64.wrap (283 * p)).toNat.gcd (IntKind.i64.wrap (1010 * IntKind.i64.wrap (2730 + t))).toNat) : Int))], Value.int IntKind.i64 0]))) := by kernel_rfl
end Go.Proofs.YtidhogcijghogaaGreatDoor
