/- What the functions of dip and of its reference ask. -/
import Derived.Test.YtofnffcdbbiohaaGreatDoorDpSpecE
namespace Go.Proofs.YtofnffcdbbiohaaGreatDoor.Dp
open Go Go.Abs Go.RowKit
set_option linter.unusedVariables false
set_option linter.unusedSimpArgs false
theorem vc_fits (n : Int) (K : Value → Prop) : callsX Tryz.prog ([]) (noAnn) 28 [num n] K = (
 bcase (decide (n ≥ -1099511627776)) (K (Value.bool (decide (n ≤ 1099511627776)))) (K (Value.bool false))) := by kernel_rfl
theorem vc_valid (a b : Int) (K : Value → Prop) : callsX Tryz.prog (ΓF) (noAnn) 12 [arc a b] K = (
 bcase (decide (a ≤ b)) (True ∧ bcase (decide (Fit a)) (True ∧ K (Value.bool (decide (Fit b)))) (K (Value.bool false))) (K (Value.bool false))) := by kernel_rfl
theorem vc_floor (n d : Int) (K : Value → Prop) : callsX Tryz.prog ([]) (noAnn) 42 [num n, num d] K = (
 bcase (d == 0) False (bcase (d == 0) False (bcase (decide (n.tmod d < 0)) (K (Value.int IntKind.i64 (IntKind.i64.wrap (IntKind.i64.wrap (n.tdiv d) - 1)))) (K (Value.int IntKind.i64 (IntKind.i64.wrap (n.tdiv d))))))) := by kernel_rfl
theorem vc_dfloor (n d : Int) (K : Value → Prop) : callsX Tryz.prog ([]) (noAnn) 17 [num n, num d] K = (
 bcase (d == 0) False (bcase (d == 0) False (bcase (decide (n.tmod d < 0)) (K (Value.int IntKind.i64 (IntKind.i64.wrap (IntKind.i64.wrap (n.tdiv d) - 1)))) (K (Value.int IntKind.i64 (IntKind.i64.wrap (n.tdiv d))))))) := by kernel_rfl
theorem vc_r5floor (n d : Int) (K : Value → Prop) : callsX Tryz.prog ([]) (noAnn) 22 [num n, num d] K = (
 bcase (d == 0) False (bcase (d == 0) False (bcase (decide (n.tmod d < 0)) (K (Value.int IntKind.i64 (IntKind.i64.wrap (IntKind.i64.wrap (n.tdiv d) - 1)))) (K (Value.int IntKind.i64 (IntKind.i64.wrap (n.tdiv d))))))) := by kernel_rfl
theorem vc_r5ceil (n d : Int) (K : Value → Prop) : callsX Tryz.prog ([]) (noAnn) 23 [num n, num d] K = (
 bcase (d == 0) False (bcase (d == 0) False (bcase (decide (n.tmod d > 0)) (K (Value.int IntKind.i64 (IntKind.i64.wrap (IntKind.i64.wrap (n.tdiv d) + 1)))) (K (Value.int IntKind.i64 (IntKind.i64.wrap (n.tdiv d))))))) := by kernel_rfl
theorem vc_print (a b : Int) (K : Value → Prop) : callsX Tryz.prog (ΓPr) (noAnn) 26 [arc a b] K = (
 True ∧
 bcase (!decide (Val a b)) (K (Value.tuple #[Value.string (ByteArray.mk #[]), Value.int IntKind.i64 1]))
 ((I64 (IntKind.i64.wrap (a + 50)) ∧ Den 100) ∧
 (I64 (IntKind.i64.wrap (b + 50)) ∧ Den 100) ∧
 True ∧
 bcase (!decide (Fit (IntKind.i64.wrap (IntKind.i64.wrap (a + 50) / 100 * 100)))) (K (Value.tuple #[Value.string (ByteArray.mk #[]), Value.int IntKind.i64 5]))
 (True ∧
 bcase (!decide (Fit (IntKind.i64.wrap (IntKind.i64.wrap (b + 50) / 100 * 100)))) (K (Value.tuple #[Value.string (ByteArray.mk #[]), Value.int IntKind.i64 5]))
 (bcase (IntKind.i64.wrap (IntKind.i64.wrap (a + 50) / 100 * 100) == IntKind.i64.wrap (IntKind.i64.wrap (b + 50) / 100 * 100)) (Fit (IntKind.i64.wrap (IntKind.i64.wrap (a + 50) / 100 * 100)) ∧ K (Value.tuple #[Value.string (textB (IntKind.i64.wrap (IntKind.i64.wrap (a + 50) / 100 * 100))), Value.int IntKind.i64 0]))
 (Fit (IntKind.i64.wrap (IntKind.i64.wrap (a + 50) / 100 * 100)) ∧
 bcase (tooLong (textB (IntKind.i64.wrap (IntKind.i64.wrap (a + 50) / 100 * 100))) (ByteArray.mk #[32, 46, 46, 32])) False
 (Fit (IntKind.i64.wrap (IntKind.i64.wrap (b + 50) / 100 * 100)) ∧
 bcase (tooLong (textB (IntKind.i64.wrap (IntKind.i64.wrap (a + 50) / 100 * 100)) ++ ByteArray.mk #[32, 46, 46, 32]) (textB (IntKind.i64.wrap (IntKind.i64.wrap (b + 50) / 100 * 100)))) False
 (K (Value.tuple #[Value.string (textB (IntKind.i64.wrap (IntKind.i64.wrap (a + 50) / 100 * 100)) ++ ByteArray.mk #[32, 46, 46, 32] ++ textB (IntKind.i64.wrap (IntKind.i64.wrap (b + 50) / 100 * 100))), Value.int IntKind.i64 0])))))))) := by kernel_rfl
theorem vc_droot (f n : Int) (K : Value → Prop) : callsX Tryz.prog ([]) (ARootD (f * f * n)) 24 [num f, num n] K = (
 ∃ (s : Int × Int),
 (f = f ∧ n = n ∧ IntKind.i64.wrap (IntKind.i64.wrap (f * f) * n) = IntKind.i64.wrap (IntKind.i64.wrap (f * f) * n) ∧ 0 = s.fst ∧ 2097152 = s.snd ∧ Int.ofNat 0 = 0 ∧ Int.ofNat 0 = 0 ∧ True) ∧
 (0 ≤ s.fst ∧ s.fst < s.snd ∧ s.snd ≤ 2097152 ∧ s.fst * s.fst ≤ f * f * n ∧ f * f * n < s.snd * s.snd) ∧
 ∀ (s : Int × Int),
 0 ≤ s.fst ∧ s.fst < s.snd ∧ s.snd ≤ 2097152 ∧ s.fst * s.fst ≤ f * f * n ∧ f * f * n < s.snd * s.snd →
 bcase (decide (IntKind.i64.wrap (s.snd - s.fst) > 1))
 (bcase (decide (IntKind.i64.wrap (IntKind.i64.wrap ((IntKind.i64.wrap (s.fst + s.snd)).tdiv 2) * IntKind.i64.wrap ((IntKind.i64.wrap (s.fst + s.snd)).tdiv 2)) ≤ IntKind.i64.wrap (IntKind.i64.wrap (f * f) * n)))
 (∃ (s_1 : Int × Int),
 (f = f ∧ n = n ∧ IntKind.i64.wrap (IntKind.i64.wrap (f * f) * n) = IntKind.i64.wrap (IntKind.i64.wrap (f * f) * n) ∧ IntKind.i64.wrap ((IntKind.i64.wrap (s.fst + s.snd)).tdiv 2) = s_1.fst ∧ s.snd = s_1.snd ∧ Int.ofNat 0 = 0 ∧ Int.ofNat 0 = 0 ∧ True) ∧
 (0 ≤ s_1.fst ∧ s_1.fst < s_1.snd ∧ s_1.snd ≤ 2097152 ∧ s_1.fst * s_1.fst ≤ f * f * n ∧ f * f * n < s_1.snd * s_1.snd) ∧ (s_1.snd - s_1.fst).toNat < (s.snd - s.fst).toNat)
 (∃ (s_1 : Int × Int),
 (f = f ∧ n = n ∧ IntKind.i64.wrap (IntKind.i64.wrap (f * f) * n) = IntKind.i64.wrap (IntKind.i64.wrap (f * f) * n) ∧ s.fst = s_1.fst ∧ IntKind.i64.wrap ((IntKind.i64.wrap (s.fst + s.snd)).tdiv 2) = s_1.snd ∧ Int.ofNat 0 = 0 ∧ Int.ofNat 0 = 0 ∧ True) ∧
 (0 ≤ s_1.fst ∧ s_1.fst < s_1.snd ∧ s_1.snd ≤ 2097152 ∧ s_1.fst * s_1.fst ≤ f * f * n ∧ f * f * n < s_1.snd * s_1.snd) ∧ (s_1.snd - s_1.fst).toNat < (s.snd - s.fst).toNat))
 (bcase (decide (IntKind.i64.wrap (s.fst * s.fst) < IntKind.i64.wrap (IntKind.i64.wrap (f * f) * n))) (K (Value.agg #[Value.int IntKind.i64 s.fst, Value.int IntKind.i64 (IntKind.i64.wrap (s.fst + 1))])) (K (Value.agg #[Value.int IntKind.i64 s.fst, Value.int IntKind.i64 s.fst])))) := by kernel_rfl
theorem vc_dquot (n d : Int) (K : Value → Prop) : callsX Tryz.prog (ΓQt) (noAnn) 25 [num n, num d] K = (
 (I64 n ∧ Den d) ∧ (I64 (IntKind.i64.wrap (0 - n)) ∧ Den d) ∧ K (Value.agg #[Value.int IntKind.i64 (n / d), Value.int IntKind.i64 (IntKind.i64.wrap (0 - IntKind.i64.wrap (0 - n) / d))])) := by kernel_rfl
theorem vc_ddip (n : Int) (K : Value → Prop) : callsX Tryz.prog (ΓDp) (noAnn) 7 [num n] K = (
 bcase (decide (n ≥ 0)) (bcase (!decide (n ≤ 10000)) (K (Value.tuple #[Value.agg #[Value.int IntKind.i64 0, Value.int IntKind.i64 0], Value.int IntKind.i64 2])) (Rt 176 n ∧ K (Value.tuple #[Value.agg #[Value.int IntKind.i64 (sqI (176 * 176 * n)), Value.int IntKind.i64 (rUp (176 * 176 * n))], Value.int IntKind.i64 0])))
 (K (Value.tuple #[Value.agg #[Value.int IntKind.i64 0, Value.int IntKind.i64 0], Value.int IntKind.i64 2]))) := by kernel_rfl
theorem vc_dshort (e d : Int) (K : Value → Prop) : callsX Tryz.prog (ΓDp) (noAnn) 8 [num e, num d] K = (
 bcase (decide (e ≥ 0))
 (bcase (!decide (e ≤ 10000)) (K (Value.tuple #[Value.agg #[Value.int IntKind.i64 0, Value.int IntKind.i64 0], Value.int IntKind.i64 2]))
 (bcase (decide (d ≥ 1))
 (bcase (!decide (d ≤ 100000)) (K (Value.tuple #[Value.agg #[Value.int IntKind.i64 0, Value.int IntKind.i64 0], Value.int IntKind.i64 2]))
 ((I64 (IntKind.i64.wrap (IntKind.i64.wrap (IntKind.i64.wrap (131953 * d) * d) + IntKind.i64.wrap (5893750000 * e))) ∧
 I64 (-IntKind.i64.wrap (IntKind.i64.wrap (IntKind.i64.wrap (131953 * d) * d) + IntKind.i64.wrap (5893750000 * e))) ∧ Den (IntKind.i64.wrap (317500 * d)) ∧ I64 (-(-IntKind.i64.wrap (IntKind.i64.wrap (IntKind.i64.wrap (131953 * d) * d) + IntKind.i64.wrap (5893750000 * e)) / IntKind.i64.wrap (317500 * d)))) ∧
 K (Value.tuple #[Value.agg #[Value.int IntKind.i64 (IntKind.i64.wrap (IntKind.i64.wrap (IntKind.i64.wrap (131953 * d) * d) + IntKind.i64.wrap (5893750000 * e)) / IntKind.i64.wrap (317500 * d)), Value.int IntKind.i64 (-(-IntKind.i64.wrap (IntKind.i64.wrap (IntKind.i64.wrap (131953 * d) * d) + IntKind.i64.wrap (5893750000 * e)) / IntKind.i64.wrap (317500 * d)))], Value.int IntKind.i64 0])))
 (K (Value.tuple #[Value.agg #[Value.int IntKind.i64 0, Value.int IntKind.i64 0], Value.int IntKind.i64 2]))))
 (K (Value.tuple #[Value.agg #[Value.int IntKind.i64 0, Value.int IntKind.i64 0], Value.int IntKind.i64 2]))) := by kernel_rfl
theorem vc_dvisible (e h : Int) (K : Value → Prop) : callsX Tryz.prog (ΓDp) (noAnn) 9 [num e, num h] K = (
 bcase (decide (e ≥ 0))
 (bcase (!decide (e ≤ 10000)) (K (Value.tuple #[Value.agg #[Value.int IntKind.i64 0, Value.int IntKind.i64 0], Value.int IntKind.i64 2]))
 (bcase (decide (h ≥ 0))
 (bcase (!decide (h ≤ 1000000)) (K (Value.tuple #[Value.agg #[Value.int IntKind.i64 0, Value.int IntKind.i64 0], Value.int IntKind.i64 2])) (Rt 208 e ∧ Rt 208 h ∧ K (Value.tuple #[Value.agg #[Value.int IntKind.i64 (IntKind.i64.wrap (sqI (208 * 208 * e) + sqI (208 * 208 * h))), Value.int IntKind.i64 (IntKind.i64.wrap (rUp (208 * 208 * e) + rUp (208 * 208 * h)))], Value.int IntKind.i64 0])))
 (K (Value.tuple #[Value.agg #[Value.int IntKind.i64 0, Value.int IntKind.i64 0], Value.int IntKind.i64 2]))))
 (K (Value.tuple #[Value.agg #[Value.int IntKind.i64 0, Value.int IntKind.i64 0], Value.int IntKind.i64 2]))) := by kernel_rfl
end Go.Proofs.YtofnffcdbbiohaaGreatDoor.Dp
