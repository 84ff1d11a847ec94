/- Refraction: what the reference's search asks. -/
import Derived.Test.YtikbpleaaaeibaaGreatRfrT
namespace Go.Proofs.YtikbpleaaaeibaaGreat
open Go Go.Abs Go.RowKit
set_option linter.unusedVariables false
set_option linter.unusedSimpArgs false
theorem vc_r20App (a b t p : Int) (K : Value → Prop) : callsX Tryz.prog (ΓRapR) (AApp a b t p) 14 [wid a b, num t, num p] K = (
 True ∧
 bcase (!decide (ArcV a b)) (K (Value.tuple #[Value.agg #[Value.int IntKind.i64 0, Value.int IntKind.i64 0], Value.int IntKind.i64 1]))
 (True ∧
 bcase (!decide (Wth t p)) (K (Value.tuple #[Value.agg #[Value.int IntKind.i64 0, Value.int IntKind.i64 0], Value.int IntKind.i64 2]))
 (∃ (s : Int × Int),
 (t = t ∧ p = p ∧ Int.ofNat 0 = 0 ∧ -60001 = s.fst ∧ 5400001 = s.snd ∧ a = a ∧ b = b ∧ Int.ofNat 0 = 0 ∧ Int.ofNat 0 = 0 ∧ True) ∧
 L1 a t p s.fst s.snd ∧
 ∀ (s : Int × Int),
 L1 a t p s.fst s.snd →
 bcase (decide (IntKind.i64.wrap (s.snd - s.fst) > 1))
 ((I64 (IntKind.i64.wrap (s.fst + s.snd)) ∧ TwoI 2) ∧
 (RU (IntKind.i64.wrap (s.fst + s.snd) / 2) ∧ Wth t p) ∧
 bcase (decide (IntKind.i64.wrap (IntKind.i64.wrap (s.fst + s.snd) / 2 - atL (IntKind.i64.wrap (s.fst + s.snd) / 2) t p) ≤ a)) (∃ (s_1 : Int × Int), (t = t ∧ p = p ∧ Int.ofNat 0 = 0 ∧ IntKind.i64.wrap (s.fst + s.snd) / 2 = s_1.fst ∧ s.snd = s_1.snd ∧ a = a ∧ b = b ∧ Int.ofNat 0 = 0 ∧ Int.ofNat 0 = 0 ∧ True) ∧ L1 a t p s_1.fst s_1.snd ∧ (s_1.snd - s_1.fst).toNat < (s.snd - s.fst).toNat)
 (∃ (s_1 : Int × Int), (t = t ∧ p = p ∧ Int.ofNat 0 = 0 ∧ s.fst = s_1.fst ∧ IntKind.i64.wrap (s.fst + s.snd) / 2 = s_1.snd ∧ a = a ∧ b = b ∧ Int.ofNat 0 = 0 ∧ Int.ofNat 0 = 0 ∧ True) ∧ L1 a t p s_1.fst s_1.snd ∧ (s_1.snd - s_1.fst).toNat < (s.snd - s.fst).toNat))
 (∃ (s_1 : Int × Int),
 (t = t ∧ p = p ∧ Int.ofNat 0 = 0 ∧ -60001 = s_1.fst ∧ 5400001 = s_1.snd ∧ a = a ∧ b = b ∧ Int.ofNat 0 = 0 ∧ Int.ofNat 0 = 0 ∧ s.fst = s.fst ∧ Int.ofNat 0 = 0 ∧ True) ∧
 L2 b t p s_1.fst s_1.snd ∧
 ∀ (s_2 : Int × Int),
 L2 b t p s_2.fst s_2.snd →
 bcase (decide (IntKind.i64.wrap (s_2.snd - s_2.fst) > 1))
 ((I64 (IntKind.i64.wrap (s_2.fst + s_2.snd)) ∧ TwoI 2) ∧
 (RU (IntKind.i64.wrap (s_2.fst + s_2.snd) / 2) ∧ Wth t p) ∧
 bcase (decide (IntKind.i64.wrap (IntKind.i64.wrap (s_2.fst + s_2.snd) / 2 - atH (IntKind.i64.wrap (s_2.fst + s_2.snd) / 2) t p) ≥ b))
 (∃ (s_3 : Int × Int), (t = t ∧ p = p ∧ Int.ofNat 0 = 0 ∧ s_2.fst = s_3.fst ∧ IntKind.i64.wrap (s_2.fst + s_2.snd) / 2 = s_3.snd ∧ a = a ∧ b = b ∧ Int.ofNat 0 = 0 ∧ Int.ofNat 0 = 0 ∧ s.fst = s.fst ∧ Int.ofNat 0 = 0 ∧ True) ∧ L2 b t p s_3.fst s_3.snd ∧ (s_3.snd - s_3.fst).toNat < (s_2.snd - s_2.fst).toNat)
 (∃ (s_3 : Int × Int), (t = t ∧ p = p ∧ Int.ofNat 0 = 0 ∧ IntKind.i64.wrap (s_2.fst + s_2.snd) / 2 = s_3.fst ∧ s_2.snd = s_3.snd ∧ a = a ∧ b = b ∧ Int.ofNat 0 = 0 ∧ Int.ofNat 0 = 0 ∧ s.fst = s.fst ∧ Int.ofNat 0 = 0 ∧ True) ∧ L2 b t p s_3.fst s_3.snd ∧ (s_3.snd - s_3.fst).toNat < (s_2.snd - s_2.fst).toNat))
 (bcase (decide (s.fst < -60000)) (K (Value.tuple #[Value.agg #[Value.int IntKind.i64 0, Value.int IntKind.i64 0], Value.int IntKind.i64 2]))
 (bcase (decide (s_2.snd > 5400000)) (K (Value.tuple #[Value.agg #[Value.int IntKind.i64 0, Value.int IntKind.i64 0], Value.int IntKind.i64 2])) (K (Value.tuple #[Value.agg #[Value.int IntKind.i64 s.fst, Value.int IntKind.i64 s_2.snd], Value.int IntKind.i64 0])))))))) := by kernel_rfl
end Go.Proofs.YtikbpleaaaeibaaGreat
