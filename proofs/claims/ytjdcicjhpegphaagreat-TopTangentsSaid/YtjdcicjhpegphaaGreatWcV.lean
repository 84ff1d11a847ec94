/- The region around a place: what its parts ask at the example. -/
import Derived.Test.YtjdcicjhpegphaaGreatWcS
namespace Go.Proofs.YtjdcicjhpegphaaGreat
open Go Go.Abs Go.RowKit Go.Sine
set_option linter.unusedVariables false
set_option linter.unusedSimpArgs false
theorem vc_clvalid (l r c : Int) (K : Value → Prop) : callsX Tryz.prog ([]) (noAnn) 144 [cel l r c] K = (
 bcase (decide (l ≥ 0)) (bcase (decide (l ≤ 16)) (bcase (decide (r ≥ 0)) (bcase (decide (l < 0)) False (bcase (decide (r < IntKind.i64.wrap (1 * 2 ^ min l.toNat 64))) (bcase (decide (c ≥ 0)) (bcase (decide (l < 0)) False (K (Value.bool (decide (c < IntKind.i64.wrap (2 * 2 ^ min l.toNat 64)))))) (K (Value.bool false))) (K (Value.bool false)))) (K (Value.bool false))) (K (Value.bool false)))
 (K (Value.bool false))) := by kernel_rfl
theorem vc_rgbox (l r c : Int) (K : Value → Prop) : callsX Tryz.prog (ΓBx) (noAnn) 111 [cel l r c] K = (
 ClOk l r c ∧
 EdOk r l ∧
 EdOk (IntKind.i64.wrap (r + 1)) l ∧ EdOk c l ∧ EdOk (IntKind.i64.wrap (c + 1)) l ∧ K (Value.agg #[Value.int IntKind.i64 (IntKind.i64.wrap (edI r l - 5400000)), Value.int IntKind.i64 (IntKind.i64.wrap (edI (IntKind.i64.wrap (r + 1)) l - 5400000)), Value.int IntKind.i64 (IntKind.i64.wrap (edI c l - 10800000)), Value.int IntKind.i64 (IntKind.i64.wrap (edI (IntKind.i64.wrap (c + 1)) l - 10800000))])) := by kernel_rfl
theorem vc_rgmeets (a b c d : Int) (K : Value → Prop) : callsX Tryz.prog (ΓMt) (AAd) 112 [plc 0 0 0 0, plc a b c d] K = (
 True ∧
 True ∧
 bcase (!decide (LatV a b ∧ LonP c d)) (K (Value.bool (1 == 0)))
 (True ∧
 True ∧
 bcase (allB c d) (bcase (decide ((if a > 0 then a else 0) > if b < 0 then b else 0)) (K (Value.bool (23 == 0))) ([(0, 0)] = arX ∧ K (Value.bool (0 == 0))))
 (BvOk 0 c ∧
 BvOk 0 c ∧
 bcase (decide ((if wrI (c - 0) > 0 then wrI (c - 0) else 0) ≤ if IntKind.i64.wrap (IntKind.i64.wrap (wrI (c - 0) + d) - c) < IntKind.i64.wrap (0 - 0) then IntKind.i64.wrap (IntKind.i64.wrap (wrI (c - 0) + d) - c) else IntKind.i64.wrap (0 - 0)))
 (True ∧
 bcase (decide ((if IntKind.i64.wrap (wrI (c - 0) - 21600000) > 0 then IntKind.i64.wrap (wrI (c - 0) - 21600000) else 0) ≤ if IntKind.i64.wrap (IntKind.i64.wrap (IntKind.i64.wrap (wrI (c - 0) - 21600000) + d) - c) < IntKind.i64.wrap (0 - 0) then IntKind.i64.wrap (IntKind.i64.wrap (IntKind.i64.wrap (wrI (c - 0) - 21600000) + d) - c) else IntKind.i64.wrap (0 - 0)))
 (True ∧
 1 =
 [(sgI (IntKind.i64.wrap (0 + if wrI (c - 0) > 0 then wrI (c - 0) else 0)),
 IntKind.i64.wrap (IntKind.i64.wrap (sgI (IntKind.i64.wrap (0 + if wrI (c - 0) > 0 then wrI (c - 0) else 0)) + if IntKind.i64.wrap (IntKind.i64.wrap (wrI (c - 0) + d) - c) < IntKind.i64.wrap (0 - 0) then IntKind.i64.wrap (IntKind.i64.wrap (wrI (c - 0) + d) - c) else IntKind.i64.wrap (0 - 0)) - if wrI (c - 0) > 0 then wrI (c - 0) else 0))].length ∧
 bcase (decide ((if a > 0 then a else 0) > if b < 0 then b else 0)) (K (Value.bool (23 == 0)))
 ([(sgI (IntKind.i64.wrap (0 + if wrI (c - 0) > 0 then wrI (c - 0) else 0)),
 IntKind.i64.wrap (IntKind.i64.wrap (sgI (IntKind.i64.wrap (0 + if wrI (c - 0) > 0 then wrI (c - 0) else 0)) + if IntKind.i64.wrap (IntKind.i64.wrap (wrI (c - 0) + d) - c) < IntKind.i64.wrap (0 - 0) then IntKind.i64.wrap (IntKind.i64.wrap (wrI (c - 0) + d) - c) else IntKind.i64.wrap (0 - 0)) - if wrI (c - 0) > 0 then wrI (c - 0) else 0))].length +
 1 =
 [(sgI (IntKind.i64.wrap (0 + if wrI (c - 0) > 0 then wrI (c - 0) else 0)),
 IntKind.i64.wrap (IntKind.i64.wrap (sgI (IntKind.i64.wrap (0 + if wrI (c - 0) > 0 then wrI (c - 0) else 0)) + if IntKind.i64.wrap (IntKind.i64.wrap (wrI (c - 0) + d) - c) < IntKind.i64.wrap (0 - 0) then IntKind.i64.wrap (IntKind.i64.wrap (wrI (c - 0) + d) - c) else IntKind.i64.wrap (0 - 0)) - if wrI (c - 0) > 0 then wrI (c - 0) else 0)),
 (sgI (IntKind.i64.wrap (0 + if IntKind.i64.wrap (wrI (c - 0) - 21600000) > 0 then IntKind.i64.wrap (wrI (c - 0) - 21600000) else 0)),
 IntKind.i64.wrap
 (IntKind.i64.wrap (sgI (IntKind.i64.wrap (0 + if IntKind.i64.wrap (wrI (c - 0) - 21600000) > 0 then IntKind.i64.wrap (wrI (c - 0) - 21600000) else 0)) + if IntKind.i64.wrap (IntKind.i64.wrap (IntKind.i64.wrap (wrI (c - 0) - 21600000) + d) - c) < IntKind.i64.wrap (0 - 0) then IntKind.i64.wrap (IntKind.i64.wrap (IntKind.i64.wrap (wrI (c - 0) - 21600000) + d) - c) else IntKind.i64.wrap (0 - 0)) -
 if IntKind.i64.wrap (wrI (c - 0) - 21600000) > 0 then IntKind.i64.wrap (wrI (c - 0) - 21600000) else 0))].length ∧
 ∀ (z : List (Int × Int)),
 z =
 [(sgI (IntKind.i64.wrap (0 + if wrI (c - 0) > 0 then wrI (c - 0) else 0)),
 IntKind.i64.wrap (IntKind.i64.wrap (sgI (IntKind.i64.wrap (0 + if wrI (c - 0) > 0 then wrI (c - 0) else 0)) + if IntKind.i64.wrap (IntKind.i64.wrap (wrI (c - 0) + d) - c) < IntKind.i64.wrap (0 - 0) then IntKind.i64.wrap (IntKind.i64.wrap (wrI (c - 0) + d) - c) else IntKind.i64.wrap (0 - 0)) - if wrI (c - 0) > 0 then wrI (c - 0) else 0)),
 (sgI (IntKind.i64.wrap (0 + if IntKind.i64.wrap (wrI (c - 0) - 21600000) > 0 then IntKind.i64.wrap (wrI (c - 0) - 21600000) else 0)),
 IntKind.i64.wrap
 (IntKind.i64.wrap (sgI (IntKind.i64.wrap (0 + if IntKind.i64.wrap (wrI (c - 0) - 21600000) > 0 then IntKind.i64.wrap (wrI (c - 0) - 21600000) else 0)) + if IntKind.i64.wrap (IntKind.i64.wrap (IntKind.i64.wrap (wrI (c - 0) - 21600000) + d) - c) < IntKind.i64.wrap (0 - 0) then IntKind.i64.wrap (IntKind.i64.wrap (IntKind.i64.wrap (wrI (c - 0) - 21600000) + d) - c) else IntKind.i64.wrap (0 - 0)) -
 if IntKind.i64.wrap (wrI (c - 0) - 21600000) > 0 then IntKind.i64.wrap (wrI (c - 0) - 21600000) else 0))] →
 z = arX ∧ K (Value.bool (0 == 0))))
 (bcase (decide ((if a > 0 then a else 0) > if b < 0 then b else 0)) (K (Value.bool (23 == 0)))
 (1 =
 [(sgI (IntKind.i64.wrap (0 + if wrI (c - 0) > 0 then wrI (c - 0) else 0)),
 IntKind.i64.wrap (IntKind.i64.wrap (sgI (IntKind.i64.wrap (0 + if wrI (c - 0) > 0 then wrI (c - 0) else 0)) + if IntKind.i64.wrap (IntKind.i64.wrap (wrI (c - 0) + d) - c) < IntKind.i64.wrap (0 - 0) then IntKind.i64.wrap (IntKind.i64.wrap (wrI (c - 0) + d) - c) else IntKind.i64.wrap (0 - 0)) - if wrI (c - 0) > 0 then wrI (c - 0) else 0))].length ∧
 ∀ (z : List (Int × Int)),
 z =
 [(sgI (IntKind.i64.wrap (0 + if wrI (c - 0) > 0 then wrI (c - 0) else 0)),
 IntKind.i64.wrap (IntKind.i64.wrap (sgI (IntKind.i64.wrap (0 + if wrI (c - 0) > 0 then wrI (c - 0) else 0)) + if IntKind.i64.wrap (IntKind.i64.wrap (wrI (c - 0) + d) - c) < IntKind.i64.wrap (0 - 0) then IntKind.i64.wrap (IntKind.i64.wrap (wrI (c - 0) + d) - c) else IntKind.i64.wrap (0 - 0)) - if wrI (c - 0) > 0 then wrI (c - 0) else 0))] →
 z = arX ∧ K (Value.bool (0 == 0)))))
 (bcase (decide ((if IntKind.i64.wrap (wrI (c - 0) - 21600000) > 0 then IntKind.i64.wrap (wrI (c - 0) - 21600000) else 0) ≤ if IntKind.i64.wrap (IntKind.i64.wrap (IntKind.i64.wrap (wrI (c - 0) - 21600000) + d) - c) < IntKind.i64.wrap (0 - 0) then IntKind.i64.wrap (IntKind.i64.wrap (IntKind.i64.wrap (wrI (c - 0) - 21600000) + d) - c) else IntKind.i64.wrap (0 - 0)))
 (True ∧
 bcase (decide ((if a > 0 then a else 0) > if b < 0 then b else 0)) (K (Value.bool (23 == 0)))
 (1 =
 [(sgI (IntKind.i64.wrap (0 + if IntKind.i64.wrap (wrI (c - 0) - 21600000) > 0 then IntKind.i64.wrap (wrI (c - 0) - 21600000) else 0)),
 IntKind.i64.wrap
 (IntKind.i64.wrap (sgI (IntKind.i64.wrap (0 + if IntKind.i64.wrap (wrI (c - 0) - 21600000) > 0 then IntKind.i64.wrap (wrI (c - 0) - 21600000) else 0)) + if IntKind.i64.wrap (IntKind.i64.wrap (IntKind.i64.wrap (wrI (c - 0) - 21600000) + d) - c) < IntKind.i64.wrap (0 - 0) then IntKind.i64.wrap (IntKind.i64.wrap (IntKind.i64.wrap (wrI (c - 0) - 21600000) + d) - c) else IntKind.i64.wrap (0 - 0)) -
 if IntKind.i64.wrap (wrI (c - 0) - 21600000) > 0 then IntKind.i64.wrap (wrI (c - 0) - 21600000) else 0))].length ∧
 ∀ (z : List (Int × Int)),
 z =
 [(sgI (IntKind.i64.wrap (0 + if IntKind.i64.wrap (wrI (c - 0) - 21600000) > 0 then IntKind.i64.wrap (wrI (c - 0) - 21600000) else 0)),
 IntKind.i64.wrap
 (IntKind.i64.wrap (sgI (IntKind.i64.wrap (0 + if IntKind.i64.wrap (wrI (c - 0) - 21600000) > 0 then IntKind.i64.wrap (wrI (c - 0) - 21600000) else 0)) + if IntKind.i64.wrap (IntKind.i64.wrap (IntKind.i64.wrap (wrI (c - 0) - 21600000) + d) - c) < IntKind.i64.wrap (0 - 0) then IntKind.i64.wrap (IntKind.i64.wrap (IntKind.i64.wrap (wrI (c - 0) - 21600000) + d) - c) else IntKind.i64.wrap (0 - 0)) -
 if IntKind.i64.wrap (wrI (c - 0) - 21600000) > 0 then IntKind.i64.wrap (wrI (c - 0) - 21600000) else 0))] →
 z = arX ∧ K (Value.bool (0 == 0))))
 (bcase (decide ((if a > 0 then a else 0) > if b < 0 then b else 0)) (K (Value.bool (23 == 0))) (K (Value.bool (23 == 0)))))))) := by kernel_rfl
theorem vc_plinside (a b c d : Int) (K : Value → Prop) : callsX Tryz.prog (ΓMt) (AAd) 113 [plc a b c d, plc 0 0 0 0] K = (
 True ∧ bcase (decide (LatV a b ∧ LonP c d)) (True ∧ bcase (decide (a ≥ 0)) (bcase (decide (b ≤ 0)) (True ∧ True ∧ bcase (allB c d) (K (Value.bool false)) (BvOk 0 c ∧ K (Value.bool (decide (IntKind.i64.wrap (IntKind.i64.wrap (wrI (c - 0) + d) - c) ≤ IntKind.i64.wrap (0 - 0)))))) (K (Value.bool false))) (K (Value.bool false))) (K (Value.bool false))) := by kernel_rfl
theorem vc_children (l r c : Int) : rcallsX Tryz.prog (ΓCh) (AAd) 115 [.one (.v (cel l r c))] [.one (.r 111 cET [(l + 1, 2 * r, 2 * c), (l + 1, 2 * r, 2 * c + 1), (l + 1, 2 * r + 1, 2 * c), (l + 1, 2 * r + 1, 2 * c + 1)]), .one (.v (num 0))] = (
 ClOk l r c ∧
 bcase (l == 16) ([] = [(l + 1, 2 * r, 2 * c), (l + 1, 2 * r, 2 * c + 1), (l + 1, 2 * r + 1, 2 * c), (l + 1, 2 * r + 1, 2 * c + 1)] ∧ Value.int IntKind.i64 6 = Value.int IntKind.i64 0 ∧ True)
 (1 = [(IntKind.i64.wrap (l + 1), IntKind.i64.wrap (IntKind.i64.wrap (2 * r) + IntKind.i64.wrap (Int.tdiv 0 2)), IntKind.i64.wrap (IntKind.i64.wrap (2 * c) + Int.tmod 0 2))].length ∧
 [(IntKind.i64.wrap (l + 1), IntKind.i64.wrap (IntKind.i64.wrap (2 * r) + IntKind.i64.wrap (Int.tdiv 0 2)), IntKind.i64.wrap (IntKind.i64.wrap (2 * c) + Int.tmod 0 2))].length + 1 =
 [(IntKind.i64.wrap (l + 1), IntKind.i64.wrap (IntKind.i64.wrap (2 * r) + IntKind.i64.wrap (Int.tdiv 0 2)), IntKind.i64.wrap (IntKind.i64.wrap (2 * c) + Int.tmod 0 2)), (IntKind.i64.wrap (l + 1), IntKind.i64.wrap (IntKind.i64.wrap (2 * r) + IntKind.i64.wrap ((IntKind.i64.wrap (0 + 1)).tdiv 2)), IntKind.i64.wrap (IntKind.i64.wrap (2 * c) + (IntKind.i64.wrap (0 + 1)).tmod 2))].length ∧
 [(IntKind.i64.wrap (l + 1), IntKind.i64.wrap (IntKind.i64.wrap (2 * r) + IntKind.i64.wrap (Int.tdiv 0 2)), IntKind.i64.wrap (IntKind.i64.wrap (2 * c) + Int.tmod 0 2)), (IntKind.i64.wrap (l + 1), IntKind.i64.wrap (IntKind.i64.wrap (2 * r) + IntKind.i64.wrap ((IntKind.i64.wrap (0 + 1)).tdiv 2)), IntKind.i64.wrap (IntKind.i64.wrap (2 * c) + (IntKind.i64.wrap (0 + 1)).tmod 2))].length + 1 =
 [(IntKind.i64.wrap (l + 1), IntKind.i64.wrap (IntKind.i64.wrap (2 * r) + IntKind.i64.wrap (Int.tdiv 0 2)), IntKind.i64.wrap (IntKind.i64.wrap (2 * c) + Int.tmod 0 2)), (IntKind.i64.wrap (l + 1), IntKind.i64.wrap (IntKind.i64.wrap (2 * r) + IntKind.i64.wrap ((IntKind.i64.wrap (0 + 1)).tdiv 2)), IntKind.i64.wrap (IntKind.i64.wrap (2 * c) + (IntKind.i64.wrap (0 + 1)).tmod 2)),
 (IntKind.i64.wrap (l + 1), IntKind.i64.wrap (IntKind.i64.wrap (2 * r) + IntKind.i64.wrap ((IntKind.i64.wrap (IntKind.i64.wrap (0 + 1) + 1)).tdiv 2)), IntKind.i64.wrap (IntKind.i64.wrap (2 * c) + (IntKind.i64.wrap (IntKind.i64.wrap (0 + 1) + 1)).tmod 2))].length ∧
 [(IntKind.i64.wrap (l + 1), IntKind.i64.wrap (IntKind.i64.wrap (2 * r) + IntKind.i64.wrap (Int.tdiv 0 2)), IntKind.i64.wrap (IntKind.i64.wrap (2 * c) + Int.tmod 0 2)), (IntKind.i64.wrap (l + 1), IntKind.i64.wrap (IntKind.i64.wrap (2 * r) + IntKind.i64.wrap ((IntKind.i64.wrap (0 + 1)).tdiv 2)), IntKind.i64.wrap (IntKind.i64.wrap (2 * c) + (IntKind.i64.wrap (0 + 1)).tmod 2)),
 (IntKind.i64.wrap (l + 1), IntKind.i64.wrap (IntKind.i64.wrap (2 * r) + IntKind.i64.wrap ((IntKind.i64.wrap (IntKind.i64.wrap (0 + 1) + 1)).tdiv 2)), IntKind.i64.wrap (IntKind.i64.wrap (2 * c) + (IntKind.i64.wrap (IntKind.i64.wrap (0 + 1) + 1)).tmod 2))].length +
 1 =
 [(IntKind.i64.wrap (l + 1), IntKind.i64.wrap (IntKind.i64.wrap (2 * r) + IntKind.i64.wrap (Int.tdiv 0 2)), IntKind.i64.wrap (IntKind.i64.wrap (2 * c) + Int.tmod 0 2)), (IntKind.i64.wrap (l + 1), IntKind.i64.wrap (IntKind.i64.wrap (2 * r) + IntKind.i64.wrap ((IntKind.i64.wrap (0 + 1)).tdiv 2)), IntKind.i64.wrap (IntKind.i64.wrap (2 * c) + (IntKind.i64.wrap (0 + 1)).tmod 2)),
 (IntKind.i64.wrap (l + 1), IntKind.i64.wrap (IntKind.i64.wrap (2 * r) + IntKind.i64.wrap ((IntKind.i64.wrap (IntKind.i64.wrap (0 + 1) + 1)).tdiv 2)), IntKind.i64.wrap (IntKind.i64.wrap (2 * c) + (IntKind.i64.wrap (IntKind.i64.wrap (0 + 1) + 1)).tmod 2)),
 (IntKind.i64.wrap (l + 1), IntKind.i64.wrap (IntKind.i64.wrap (2 * r) + IntKind.i64.wrap ((IntKind.i64.wrap (IntKind.i64.wrap (IntKind.i64.wrap (0 + 1) + 1) + 1)).tdiv 2)), IntKind.i64.wrap (IntKind.i64.wrap (2 * c) + (IntKind.i64.wrap (IntKind.i64.wrap (IntKind.i64.wrap (0 + 1) + 1) + 1)).tmod 2))].length ∧
 [(IntKind.i64.wrap (l + 1), IntKind.i64.wrap (IntKind.i64.wrap (2 * r) + IntKind.i64.wrap (Int.tdiv 0 2)), IntKind.i64.wrap (IntKind.i64.wrap (2 * c) + Int.tmod 0 2)), (IntKind.i64.wrap (l + 1), IntKind.i64.wrap (IntKind.i64.wrap (2 * r) + IntKind.i64.wrap ((IntKind.i64.wrap (0 + 1)).tdiv 2)), IntKind.i64.wrap (IntKind.i64.wrap (2 * c) + (IntKind.i64.wrap (0 + 1)).tmod 2)),
 (IntKind.i64.wrap (l + 1), IntKind.i64.wrap (IntKind.i64.wrap (2 * r) + IntKind.i64.wrap ((IntKind.i64.wrap (IntKind.i64.wrap (0 + 1) + 1)).tdiv 2)), IntKind.i64.wrap (IntKind.i64.wrap (2 * c) + (IntKind.i64.wrap (IntKind.i64.wrap (0 + 1) + 1)).tmod 2)),
 (IntKind.i64.wrap (l + 1), IntKind.i64.wrap (IntKind.i64.wrap (2 * r) + IntKind.i64.wrap ((IntKind.i64.wrap (IntKind.i64.wrap (IntKind.i64.wrap (0 + 1) + 1) + 1)).tdiv 2)), IntKind.i64.wrap (IntKind.i64.wrap (2 * c) + (IntKind.i64.wrap (IntKind.i64.wrap (IntKind.i64.wrap (0 + 1) + 1) + 1)).tmod 2))] =
 [(l + 1, 2 * r, 2 * c), (l + 1, 2 * r, 2 * c + 1), (l + 1, 2 * r + 1, 2 * c), (l + 1, 2 * r + 1, 2 * c + 1)] ∧
 Value.int IntKind.i64 0 = Value.int IntKind.i64 0 ∧ True)) := by kernel_rfl
end Go.Proofs.YtjdcicjhpegphaaGreat
