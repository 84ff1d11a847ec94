/- Refraction: what the functions of the reference ask. -/
import Derived.Test.YtikbpleaaaeibaaGreatRfrS
namespace Go.Proofs.YtikbpleaaaeibaaGreat
open Go Go.Abs Go.RowKit
set_option linter.unusedVariables false
set_option linter.unusedSimpArgs false
theorem vc_r5valid5 (a b : Int) (K : Value → Prop) : callsX Tryz.prog ([]) (noAnn) 10 [wid a b] K = (
 bcase (decide (a ≤ b)) (bcase (decide (a ≥ -1099511627776)) (K (Value.bool (decide (b ≤ 1099511627776)))) (K (Value.bool false))) (K (Value.bool false))) := by kernel_rfl
theorem vc_r4ceil (n d : Int) (K : Value → Prop) : callsX Tryz.prog (ΓR4c) (noAnn) 32 [num n, num d] K = (
 (I64 (IntKind.i64.wrap (0 - n)) ∧ 0 < d) ∧ K (Value.int IntKind.i64 (IntKind.i64.wrap (0 - IntKind.i64.wrap (0 - n) / d)))) := by kernel_rfl
theorem vc_r20bent (u : Int) (K : Value → Prop) : callsX Tryz.prog (ΓRp) (noAnn) 36 [num u] K = (
 bcase (IntKind.i64.wrap (u + 264000) == 0) False ((I64 26316000000 ∧ I64 (-26316000000) ∧ 0 < IntKind.i64.wrap (u + 264000)) ∧ K (Value.agg #[Value.int IntKind.i64 (IntKind.i64.wrap (u + IntKind.i64.wrap (Int.tdiv 26316000000 (IntKind.i64.wrap (u + 264000))))), Value.int IntKind.i64 (IntKind.i64.wrap (u + -(-26316000000 / IntKind.i64.wrap (u + 264000))))]))) := by kernel_rfl
theorem vc_r20one (u : Int) (K : Value → Prop) : callsX Tryz.prog (ΓRq20) (noAnn) 21 [num u] K = (
 RU u ∧
 ArcV (bL u) (bH u) ∧
 ArcV (bL u) (bH u) ∧
 QuoP (cL (bL u) (bH u)) (cH (bL u) (bH u)) (encL (bL u) (bH u)) (encH (bL u) (bH u)) 1000 ∧
 K
 (Value.agg
 #[Value.int IntKind.i64 (gate (okF (cL (bL u) (bH u)) (cH (bL u) (bH u)) (encL (bL u) (bH u)) (encH (bL u) (bH u)) 1000) (qL (cL (bL u) (bH u)) (cH (bL u) (bH u)) (encL (bL u) (bH u)) (encH (bL u) (bH u)) 1000)),
 Value.int IntKind.i64 (gate (okF (cL (bL u) (bH u)) (cH (bL u) (bH u)) (encL (bL u) (bH u)) (encH (bL u) (bH u)) 1000) (qH (cL (bL u) (bH u)) (cH (bL u) (bH u)) (encL (bL u) (bH u)) (encH (bL u) (bH u)) 1000))])) := by kernel_rfl
theorem vc_r20mean (a b : Int) (K : Value → Prop) : callsX Tryz.prog (ΓRm20) (noAnn) 12 [wid a b] K = (
 RU b ∧ RU a ∧ K (Value.agg #[Value.int IntKind.i64 (oneL b), Value.int IntKind.i64 (oneH a)])) := by kernel_rfl
theorem vc_r20within (a b : Int) (K : Value → Prop) : callsX Tryz.prog ([]) (noAnn) 11 [wid a b] K = (
 bcase (decide (a ≥ -60000)) (K (Value.bool (decide (b ≤ 5400000)))) (K (Value.bool false))) := by kernel_rfl
theorem vc_r20weather (t p : Int) (K : Value → Prop) : callsX Tryz.prog ([]) (noAnn) 8 [num t, num p] K = (
 bcase (decide (t ≥ -500)) (bcase (decide (t ≤ 600)) (bcase (decide (p ≥ 5000)) (K (Value.bool (decide (p ≤ 11000)))) (K (Value.bool false))) (K (Value.bool false))) (K (Value.bool false))) := by kernel_rfl
theorem vc_r20factor (t p : Int) (K : Value → Prop) : callsX Tryz.prog ([]) (fun _ => [(0, .ann (annGcd20 (numF p) (denF t)))]) 9 [num t, num p] K = (
 ∃ (s : Int × Int),
 (IntKind.i64.wrap (283 * p) = IntKind.i64.wrap (283 * p) ∧ IntKind.i64.wrap (1010 * IntKind.i64.wrap (2730 + t)) = IntKind.i64.wrap (1010 * IntKind.i64.wrap (2730 + t)) ∧ IntKind.i64.wrap (283 * p) = s.fst ∧ IntKind.i64.wrap (1010 * IntKind.i64.wrap (2730 + t)) = s.snd ∧ Int.ofNat 0 = 0 ∧ Int.ofNat 0 = 0 ∧ True) ∧
 (0 ≤ s.fst ∧ s.fst ≤ 4000000 ∧ 0 ≤ s.snd ∧ s.snd ≤ 4000000 ∧ s.fst.toNat.gcd s.snd.toNat = (numF p).toNat.gcd (denF t).toNat) ∧
 ∀ (s : Int × Int),
 0 ≤ s.fst ∧ s.fst ≤ 4000000 ∧ 0 ≤ s.snd ∧ s.snd ≤ 4000000 ∧ s.fst.toNat.gcd s.snd.toNat = (numF p).toNat.gcd (denF t).toNat →
 bcase (decide (s.snd > 0))
 (bcase (s.snd == 0) False
 (∃ (s_1 : Int × Int),
 (IntKind.i64.wrap (283 * p) = IntKind.i64.wrap (283 * p) ∧ IntKind.i64.wrap (1010 * IntKind.i64.wrap (2730 + t)) = IntKind.i64.wrap (1010 * IntKind.i64.wrap (2730 + t)) ∧ s.snd = s_1.fst ∧ s.fst.tmod s.snd = s_1.snd ∧ Int.ofNat 0 = 0 ∧ Int.ofNat 0 = 0 ∧ True) ∧
 (0 ≤ s_1.fst ∧ s_1.fst ≤ 4000000 ∧ 0 ≤ s_1.snd ∧ s_1.snd ≤ 4000000 ∧ s_1.fst.toNat.gcd s_1.snd.toNat = (numF p).toNat.gcd (denF t).toNat) ∧ s_1.snd.toNat < s.snd.toNat))
 (bcase (s.fst == 0) False (bcase (s.fst == 0) False (K (Value.agg #[Value.int IntKind.i64 (IntKind.i64.wrap ((IntKind.i64.wrap (283 * p)).tdiv s.fst)), Value.int IntKind.i64 (IntKind.i64.wrap ((IntKind.i64.wrap (1010 * IntKind.i64.wrap (2730 + t))).tdiv s.fst))]))))) := by kernel_rfl
theorem vc_r20at (a b t p : Int) (K : Value → Prop) : callsX Tryz.prog (ΓRA20) (noAnn) 16 [wid a b, num t, num p] K = (
 okA a b ∧ Wth t p ∧ (I64 (IntKind.i64.wrap (oneL b * fN t p)) ∧ 0 < fD t p) ∧ (I64 (IntKind.i64.wrap (oneH a * fN t p)) ∧ I64 (-IntKind.i64.wrap (oneH a * fN t p)) ∧ 0 < fD t p) ∧ K (Value.agg #[Value.int IntKind.i64 (IntKind.i64.wrap (oneL b * fN t p) / fD t p), Value.int IntKind.i64 (-(-IntKind.i64.wrap (oneH a * fN t p) / fD t p))])) := by kernel_rfl
theorem vc_r20point (u t p : Int) (K : Value → Prop) : callsX Tryz.prog (ΓRP20) (noAnn) 31 [num u, num t, num p] K = (
 okT u u t p ∧ K (Value.agg #[Value.int IntKind.i64 (atL u t p), Value.int IntKind.i64 (atH u t p)])) := by kernel_rfl
end Go.Proofs.YtikbpleaaaeibaaGreat
