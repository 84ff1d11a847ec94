/- What the division of words asks. -/
import Derived.Test.YtidhogcijghogaaGreatDoorSpecW
namespace Go.Proofs.YtidhogcijghogaaGreatDoor
open Go Go.Abs Go.RowKit
set_option linter.unusedVariables false
set_option linter.unusedSimpArgs false
theorem vc_div64 (h l y : Int) (K : Value → Prop) : callsX Tryz.prog (ΓD) (ADiv) 99 [.int .u64 h, .int .u64 l, .int .u64 y] K = (
 bcase (y == 0) False
 (bcase (decide (y ≤ h)) False
 (bcase (h == 0) (bcase (y == 0) False (bcase (y == 0) False (K (Value.tuple #[Value.int IntKind.u64 (IntKind.u64.wrap (l.tdiv y)), Value.int IntKind.u64 (l.tmod y)]))))
 (U64 y ∧
 bcase (decide (IntKind.u64.wrap (lzI y) < 0)) False
 (bcase (decide (IntKind.u64.wrap (lzI y) < 0)) False
 (bcase (decide (IntKind.u64.wrap (64 - IntKind.u64.wrap (lzI y)) < 0)) False
 (bcase (decide (IntKind.u64.wrap (lzI y) < 0)) False
 (bcase ((IntKind.u64.wrap (y * 2 ^ min (IntKind.u64.wrap (lzI y)).toNat 64)).fdiv (2 ^ 32) == 0) False
 ((∀ (s : Int),
 s =
 digI ((IntKind.u64.wrap (y * 2 ^ min (IntKind.u64.wrap (lzI y)).toNat 64)).fdiv (2 ^ 32)) (andI IntKind.u64 (IntKind.u64.wrap (y * 2 ^ min (IntKind.u64.wrap (lzI y)).toNat 64)) 4294967295) (orI IntKind.u64 (IntKind.u64.wrap (h * 2 ^ min (IntKind.u64.wrap (lzI y)).toNat 64)) (l.fdiv (2 ^ min (IntKind.u64.wrap (64 - IntKind.u64.wrap (lzI y))).toNat 64)))
 ((IntKind.u64.wrap (l * 2 ^ min (IntKind.u64.wrap (lzI y)).toNat 64)).fdiv (2 ^ 32)) →
 bcase ((IntKind.u64.wrap (y * 2 ^ min (IntKind.u64.wrap (lzI y)).toNat 64)).fdiv (2 ^ 32) == 0) False
 ((∀ (s_1 : Int),
 s_1 =
 digI ((IntKind.u64.wrap (y * 2 ^ min (IntKind.u64.wrap (lzI y)).toNat 64)).fdiv (2 ^ 32)) (andI IntKind.u64 (IntKind.u64.wrap (y * 2 ^ min (IntKind.u64.wrap (lzI y)).toNat 64)) 4294967295)
 (IntKind.u64.wrap
 (IntKind.u64.wrap (IntKind.u64.wrap (orI IntKind.u64 (IntKind.u64.wrap (h * 2 ^ min (IntKind.u64.wrap (lzI y)).toNat 64)) (l.fdiv (2 ^ min (IntKind.u64.wrap (64 - IntKind.u64.wrap (lzI y))).toNat 64)) * 4294967296) + (IntKind.u64.wrap (l * 2 ^ min (IntKind.u64.wrap (lzI y)).toNat 64)).fdiv (2 ^ 32)) - IntKind.u64.wrap (s * IntKind.u64.wrap (y * 2 ^ min (IntKind.u64.wrap (lzI y)).toNat 64))))
 (andI IntKind.u64 (IntKind.u64.wrap (l * 2 ^ min (IntKind.u64.wrap (lzI y)).toNat 64)) 4294967295) →
 bcase (decide (IntKind.u64.wrap (lzI y) < 0)) False
 (K
 (Value.tuple
 #[Value.int IntKind.u64 (IntKind.u64.wrap (IntKind.u64.wrap (s * 4294967296) + s_1)),
 Value.int IntKind.u64
 ((IntKind.u64.wrap
 (IntKind.u64.wrap
 (IntKind.u64.wrap
 (IntKind.u64.wrap
 (IntKind.u64.wrap (IntKind.u64.wrap (orI IntKind.u64 (IntKind.u64.wrap (h * 2 ^ min (IntKind.u64.wrap (lzI y)).toNat 64)) (l.fdiv (2 ^ min (IntKind.u64.wrap (64 - IntKind.u64.wrap (lzI y))).toNat 64)) * 4294967296) + (IntKind.u64.wrap (l * 2 ^ min (IntKind.u64.wrap (lzI y)).toNat 64)).fdiv (2 ^ 32)) - IntKind.u64.wrap (s * IntKind.u64.wrap (y * 2 ^ min (IntKind.u64.wrap (lzI y)).toNat 64))) *
 4294967296) +
 andI IntKind.u64 (IntKind.u64.wrap (l * 2 ^ min (IntKind.u64.wrap (lzI y)).toNat 64)) 4294967295) -
 IntKind.u64.wrap (s_1 * IntKind.u64.wrap (y * 2 ^ min (IntKind.u64.wrap (lzI y)).toNat 64)))).fdiv
 (2 ^ min (IntKind.u64.wrap (lzI y)).toNat 64))]))) ∧
 ∃ (s_1 : Int × Int),
 (IntKind.u64.wrap (y * 2 ^ min (IntKind.u64.wrap (lzI y)).toNat 64) = IntKind.u64.wrap (y * 2 ^ min (IntKind.u64.wrap (lzI y)).toNat 64) ∧
 IntKind.u64.wrap (lzI y) = IntKind.u64.wrap (lzI y) ∧
 (IntKind.u64.wrap (y * 2 ^ min (IntKind.u64.wrap (lzI y)).toNat 64)).fdiv (2 ^ 32) = (IntKind.u64.wrap (y * 2 ^ min (IntKind.u64.wrap (lzI y)).toNat 64)).fdiv (2 ^ 32) ∧
 andI IntKind.u64 (IntKind.u64.wrap (y * 2 ^ min (IntKind.u64.wrap (lzI y)).toNat 64)) 4294967295 = andI IntKind.u64 (IntKind.u64.wrap (y * 2 ^ min (IntKind.u64.wrap (lzI y)).toNat 64)) 4294967295 ∧
 orI IntKind.u64 (IntKind.u64.wrap (h * 2 ^ min (IntKind.u64.wrap (lzI y)).toNat 64)) (l.fdiv (2 ^ min (IntKind.u64.wrap (64 - IntKind.u64.wrap (lzI y))).toNat 64)) = orI IntKind.u64 (IntKind.u64.wrap (h * 2 ^ min (IntKind.u64.wrap (lzI y)).toNat 64)) (l.fdiv (2 ^ min (IntKind.u64.wrap (64 - IntKind.u64.wrap (lzI y))).toNat 64)) ∧
 (IntKind.u64.wrap (l * 2 ^ min (IntKind.u64.wrap (lzI y)).toNat 64)).fdiv (2 ^ 32) = (IntKind.u64.wrap (l * 2 ^ min (IntKind.u64.wrap (lzI y)).toNat 64)).fdiv (2 ^ 32) ∧
 andI IntKind.u64 (IntKind.u64.wrap (l * 2 ^ min (IntKind.u64.wrap (lzI y)).toNat 64)) 4294967295 = andI IntKind.u64 (IntKind.u64.wrap (l * 2 ^ min (IntKind.u64.wrap (lzI y)).toNat 64)) 4294967295 ∧
 s = s ∧
 IntKind.u64.wrap
 (IntKind.u64.wrap
 (IntKind.u64.wrap (IntKind.u64.wrap (orI IntKind.u64 (IntKind.u64.wrap (h * 2 ^ min (IntKind.u64.wrap (lzI y)).toNat 64)) (l.fdiv (2 ^ min (IntKind.u64.wrap (64 - IntKind.u64.wrap (lzI y))).toNat 64)) * 4294967296) + (IntKind.u64.wrap (l * 2 ^ min (IntKind.u64.wrap (lzI y)).toNat 64)).fdiv (2 ^ 32)) - IntKind.u64.wrap (s * IntKind.u64.wrap (y * 2 ^ min (IntKind.u64.wrap (lzI y)).toNat 64))) -
 IntKind.u64.wrap
 (IntKind.u64.wrap
 ((IntKind.u64.wrap
 (IntKind.u64.wrap (IntKind.u64.wrap (orI IntKind.u64 (IntKind.u64.wrap (h * 2 ^ min (IntKind.u64.wrap (lzI y)).toNat 64)) (l.fdiv (2 ^ min (IntKind.u64.wrap (64 - IntKind.u64.wrap (lzI y))).toNat 64)) * 4294967296) + (IntKind.u64.wrap (l * 2 ^ min (IntKind.u64.wrap (lzI y)).toNat 64)).fdiv (2 ^ 32)) - IntKind.u64.wrap (s * IntKind.u64.wrap (y * 2 ^ min (IntKind.u64.wrap (lzI y)).toNat 64)))).tdiv
 ((IntKind.u64.wrap (y * 2 ^ min (IntKind.u64.wrap (lzI y)).toNat 64)).fdiv (2 ^ 32))) *
 (IntKind.u64.wrap (y * 2 ^ min (IntKind.u64.wrap (lzI y)).toNat 64)).fdiv (2 ^ 32))) =
 s_1.snd ∧
 IntKind.u64.wrap
 (IntKind.u64.wrap (IntKind.u64.wrap (orI IntKind.u64 (IntKind.u64.wrap (h * 2 ^ min (IntKind.u64.wrap (lzI y)).toNat 64)) (l.fdiv (2 ^ min (IntKind.u64.wrap (64 - IntKind.u64.wrap (lzI y))).toNat 64)) * 4294967296) + (IntKind.u64.wrap (l * 2 ^ min (IntKind.u64.wrap (lzI y)).toNat 64)).fdiv (2 ^ 32)) - IntKind.u64.wrap (s * IntKind.u64.wrap (y * 2 ^ min (IntKind.u64.wrap (lzI y)).toNat 64))) =
 IntKind.u64.wrap
 (IntKind.u64.wrap (IntKind.u64.wrap (orI IntKind.u64 (IntKind.u64.wrap (h * 2 ^ min (IntKind.u64.wrap (lzI y)).toNat 64)) (l.fdiv (2 ^ min (IntKind.u64.wrap (64 - IntKind.u64.wrap (lzI y))).toNat 64)) * 4294967296) + (IntKind.u64.wrap (l * 2 ^ min (IntKind.u64.wrap (lzI y)).toNat 64)).fdiv (2 ^ 32)) - IntKind.u64.wrap (s * IntKind.u64.wrap (y * 2 ^ min (IntKind.u64.wrap (lzI y)).toNat 64))) ∧
 IntKind.u64.wrap
 ((IntKind.u64.wrap
 (IntKind.u64.wrap (IntKind.u64.wrap (orI IntKind.u64 (IntKind.u64.wrap (h * 2 ^ min (IntKind.u64.wrap (lzI y)).toNat 64)) (l.fdiv (2 ^ min (IntKind.u64.wrap (64 - IntKind.u64.wrap (lzI y))).toNat 64)) * 4294967296) + (IntKind.u64.wrap (l * 2 ^ min (IntKind.u64.wrap (lzI y)).toNat 64)).fdiv (2 ^ 32)) - IntKind.u64.wrap (s * IntKind.u64.wrap (y * 2 ^ min (IntKind.u64.wrap (lzI y)).toNat 64)))).tdiv
 ((IntKind.u64.wrap (y * 2 ^ min (IntKind.u64.wrap (lzI y)).toNat 64)).fdiv (2 ^ 32))) =
 s_1.fst ∧
 True) ∧
 Dig ((IntKind.u64.wrap (y * 2 ^ min (IntKind.u64.wrap (lzI y)).toNat 64)).fdiv (2 ^ 32)) (andI IntKind.u64 (IntKind.u64.wrap (y * 2 ^ min (IntKind.u64.wrap (lzI y)).toNat 64)) 4294967295)
 (IntKind.u64.wrap
 (IntKind.u64.wrap (IntKind.u64.wrap (orI IntKind.u64 (IntKind.u64.wrap (h * 2 ^ min (IntKind.u64.wrap (lzI y)).toNat 64)) (l.fdiv (2 ^ min (IntKind.u64.wrap (64 - IntKind.u64.wrap (lzI y))).toNat 64)) * 4294967296) + (IntKind.u64.wrap (l * 2 ^ min (IntKind.u64.wrap (lzI y)).toNat 64)).fdiv (2 ^ 32)) - IntKind.u64.wrap (s * IntKind.u64.wrap (y * 2 ^ min (IntKind.u64.wrap (lzI y)).toNat 64))))
 (andI IntKind.u64 (IntKind.u64.wrap (l * 2 ^ min (IntKind.u64.wrap (lzI y)).toNat 64)) 4294967295) s_1.fst s_1.snd ∧
 ∀ (s_2 : Int × Int),
 Dig ((IntKind.u64.wrap (y * 2 ^ min (IntKind.u64.wrap (lzI y)).toNat 64)).fdiv (2 ^ 32)) (andI IntKind.u64 (IntKind.u64.wrap (y * 2 ^ min (IntKind.u64.wrap (lzI y)).toNat 64)) 4294967295)
 (IntKind.u64.wrap
 (IntKind.u64.wrap (IntKind.u64.wrap (orI IntKind.u64 (IntKind.u64.wrap (h * 2 ^ min (IntKind.u64.wrap (lzI y)).toNat 64)) (l.fdiv (2 ^ min (IntKind.u64.wrap (64 - IntKind.u64.wrap (lzI y))).toNat 64)) * 4294967296) + (IntKind.u64.wrap (l * 2 ^ min (IntKind.u64.wrap (lzI y)).toNat 64)).fdiv (2 ^ 32)) - IntKind.u64.wrap (s * IntKind.u64.wrap (y * 2 ^ min (IntKind.u64.wrap (lzI y)).toNat 64))))
 (andI IntKind.u64 (IntKind.u64.wrap (l * 2 ^ min (IntKind.u64.wrap (lzI y)).toNat 64)) 4294967295) s_2.fst s_2.snd →
 bcase (decide (s_2.fst ≥ 4294967296))
 (bcase (decide (IntKind.u64.wrap (s_2.snd + (IntKind.u64.wrap (y * 2 ^ min (IntKind.u64.wrap (lzI y)).toNat 64)).fdiv (2 ^ 32)) ≥ 4294967296))
 (∃ (s_3 : Int),
 (IntKind.u64.wrap (y * 2 ^ min (IntKind.u64.wrap (lzI y)).toNat 64) = IntKind.u64.wrap (y * 2 ^ min (IntKind.u64.wrap (lzI y)).toNat 64) ∧
 IntKind.u64.wrap (lzI y) = IntKind.u64.wrap (lzI y) ∧
 (IntKind.u64.wrap (y * 2 ^ min (IntKind.u64.wrap (lzI y)).toNat 64)).fdiv (2 ^ 32) = (IntKind.u64.wrap (y * 2 ^ min (IntKind.u64.wrap (lzI y)).toNat 64)).fdiv (2 ^ 32) ∧
 andI IntKind.u64 (IntKind.u64.wrap (y * 2 ^ min (IntKind.u64.wrap (lzI y)).toNat 64)) 4294967295 = andI IntKind.u64 (IntKind.u64.wrap (y * 2 ^ min (IntKind.u64.wrap (lzI y)).toNat 64)) 4294967295 ∧
 orI IntKind.u64 (IntKind.u64.wrap (h * 2 ^ min (IntKind.u64.wrap (lzI y)).toNat 64)) (l.fdiv (2 ^ min (IntKind.u64.wrap (64 - IntKind.u64.wrap (lzI y))).toNat 64)) = orI IntKind.u64 (IntKind.u64.wrap (h * 2 ^ min (IntKind.u64.wrap (lzI y)).toNat 64)) (l.fdiv (2 ^ min (IntKind.u64.wrap (64 - IntKind.u64.wrap (lzI y))).toNat 64)) ∧
 (IntKind.u64.wrap (l * 2 ^ min (IntKind.u64.wrap (lzI y)).toNat 64)).fdiv (2 ^ 32) = (IntKind.u64.wrap (l * 2 ^ min (IntKind.u64.wrap (lzI y)).toNat 64)).fdiv (2 ^ 32) ∧
 andI IntKind.u64 (IntKind.u64.wrap (l * 2 ^ min (IntKind.u64.wrap (lzI y)).toNat 64)) 4294967295 = andI IntKind.u64 (IntKind.u64.wrap (l * 2 ^ min (IntKind.u64.wrap (lzI y)).toNat 64)) 4294967295 ∧
 s = s ∧
 IntKind.u64.wrap
 (IntKind.u64.wrap (IntKind.u64.wrap (orI IntKind.u64 (IntKind.u64.wrap (h * 2 ^ min (IntKind.u64.wrap (lzI y)).toNat 64)) (l.fdiv (2 ^ min (IntKind.u64.wrap (64 - IntKind.u64.wrap (lzI y))).toNat 64)) * 4294967296) + (IntKind.u64.wrap (l * 2 ^ min (IntKind.u64.wrap (lzI y)).toNat 64)).fdiv (2 ^ 32)) - IntKind.u64.wrap (s * IntKind.u64.wrap (y * 2 ^ min (IntKind.u64.wrap (lzI y)).toNat 64))) =
 IntKind.u64.wrap
 (IntKind.u64.wrap (IntKind.u64.wrap (orI IntKind.u64 (IntKind.u64.wrap (h * 2 ^ min (IntKind.u64.wrap (lzI y)).toNat 64)) (l.fdiv (2 ^ min (IntKind.u64.wrap (64 - IntKind.u64.wrap (lzI y))).toNat 64)) * 4294967296) + (IntKind.u64.wrap (l * 2 ^ min (IntKind.u64.wrap (lzI y)).toNat 64)).fdiv (2 ^ 32)) - IntKind.u64.wrap (s * IntKind.u64.wrap (y * 2 ^ min (IntKind.u64.wrap (lzI y)).toNat 64))) ∧
 IntKind.u64.wrap (s_2.fst - 1) = s_3 ∧ True) ∧
 s_3 =
 digI ((IntKind.u64.wrap (y * 2 ^ min (IntKind.u64.wrap (lzI y)).toNat 64)).fdiv (2 ^ 32)) (andI IntKind.u64 (IntKind.u64.wrap (y * 2 ^ min (IntKind.u64.wrap (lzI y)).toNat 64)) 4294967295)
 (IntKind.u64.wrap
 (IntKind.u64.wrap (IntKind.u64.wrap (orI IntKind.u64 (IntKind.u64.wrap (h * 2 ^ min (IntKind.u64.wrap (lzI y)).toNat 64)) (l.fdiv (2 ^ min (IntKind.u64.wrap (64 - IntKind.u64.wrap (lzI y))).toNat 64)) * 4294967296) + (IntKind.u64.wrap (l * 2 ^ min (IntKind.u64.wrap (lzI y)).toNat 64)).fdiv (2 ^ 32)) - IntKind.u64.wrap (s * IntKind.u64.wrap (y * 2 ^ min (IntKind.u64.wrap (lzI y)).toNat 64))))
 (andI IntKind.u64 (IntKind.u64.wrap (l * 2 ^ min (IntKind.u64.wrap (lzI y)).toNat 64)) 4294967295))
 (∃ (s_3 : Int × Int),
 (IntKind.u64.wrap (y * 2 ^ min (IntKind.u64.wrap (lzI y)).toNat 64) = IntKind.u64.wrap (y * 2 ^ min (IntKind.u64.wrap (lzI y)).toNat 64) ∧
 IntKind.u64.wrap (lzI y) = IntKind.u64.wrap (lzI y) ∧
 (IntKind.u64.wrap (y * 2 ^ min (IntKind.u64.wrap (lzI y)).toNat 64)).fdiv (2 ^ 32) = (IntKind.u64.wrap (y * 2 ^ min (IntKind.u64.wrap (lzI y)).toNat 64)).fdiv (2 ^ 32) ∧
 andI IntKind.u64 (IntKind.u64.wrap (y * 2 ^ min (IntKind.u64.wrap (lzI y)).toNat 64)) 4294967295 = andI IntKind.u64 (IntKind.u64.wrap (y * 2 ^ min (IntKind.u64.wrap (lzI y)).toNat 64)) 4294967295 ∧
 orI IntKind.u64 (IntKind.u64.wrap (h * 2 ^ min (IntKind.u64.wrap (lzI y)).toNat 64)) (l.fdiv (2 ^ min (IntKind.u64.wrap (64 - IntKind.u64.wrap (lzI y))).toNat 64)) = orI IntKind.u64 (IntKind.u64.wrap (h * 2 ^ min (IntKind.u64.wrap (lzI y)).toNat 64)) (l.fdiv (2 ^ min (IntKind.u64.wrap (64 - IntKind.u64.wrap (lzI y))).toNat 64)) ∧
 (IntKind.u64.wrap (l * 2 ^ min (IntKind.u64.wrap (lzI y)).toNat 64)).fdiv (2 ^ 32) = (IntKind.u64.wrap (l * 2 ^ min (IntKind.u64.wrap (lzI y)).toNat 64)).fdiv (2 ^ 32) ∧
 andI IntKind.u64 (IntKind.u64.wrap (l * 2 ^ min (IntKind.u64.wrap (lzI y)).toNat 64)) 4294967295 = andI IntKind.u64 (IntKind.u64.wrap (l * 2 ^ min (IntKind.u64.wrap (lzI y)).toNat 64)) 4294967295 ∧
 s = s ∧
 IntKind.u64.wrap (s_2.snd + (IntKind.u64.wrap (y * 2 ^ min (IntKind.u64.wrap (lzI y)).toNat 64)).fdiv (2 ^ 32)) = s_3.snd ∧
 IntKind.u64.wrap
 (IntKind.u64.wrap (IntKind.u64.wrap (orI IntKind.u64 (IntKind.u64.wrap (h * 2 ^ min (IntKind.u64.wrap (lzI y)).toNat 64)) (l.fdiv (2 ^ min (IntKind.u64.wrap (64 - IntKind.u64.wrap (lzI y))).toNat 64)) * 4294967296) + (IntKind.u64.wrap (l * 2 ^ min (IntKind.u64.wrap (lzI y)).toNat 64)).fdiv (2 ^ 32)) - IntKind.u64.wrap (s * IntKind.u64.wrap (y * 2 ^ min (IntKind.u64.wrap (lzI y)).toNat 64))) =
 IntKind.u64.wrap
 (IntKind.u64.wrap (IntKind.u64.wrap (orI IntKind.u64 (IntKind.u64.wrap (h * 2 ^ min (IntKind.u64.wrap (lzI y)).toNat 64)) (l.fdiv (2 ^ min (IntKind.u64.wrap (64 - IntKind.u64.wrap (lzI y))).toNat 64)) * 4294967296) + (IntKind.u64.wrap (l * 2 ^ min (IntKind.u64.wrap (lzI y)).toNat 64)).fdiv (2 ^ 32)) - IntKind.u64.wrap (s * IntKind.u64.wrap (y * 2 ^ min (IntKind.u64.wrap (lzI y)).toNat 64))) ∧
 IntKind.u64.wrap (s_2.fst - 1) = s_3.fst ∧ True) ∧
 Dig ((IntKind.u64.wrap (y * 2 ^ min (IntKind.u64.wrap (lzI y)).toNat 64)).fdiv (2 ^ 32)) (andI IntKind.u64 (IntKind.u64.wrap (y * 2 ^ min (IntKind.u64.wrap (lzI y)).toNat 64)) 4294967295)
 (IntKind.u64.wrap
 (IntKind.u64.wrap (IntKind.u64.wrap (orI IntKind.u64 (IntKind.u64.wrap (h * 2 ^ min (IntKind.u64.wrap (lzI y)).toNat 64)) (l.fdiv (2 ^ min (IntKind.u64.wrap (64 - IntKind.u64.wrap (lzI y))).toNat 64)) * 4294967296) + (IntKind.u64.wrap (l * 2 ^ min (IntKind.u64.wrap (lzI y)).toNat 64)).fdiv (2 ^ 32)) - IntKind.u64.wrap (s * IntKind.u64.wrap (y * 2 ^ min (IntKind.u64.wrap (lzI y)).toNat 64))))
 (andI IntKind.u64 (IntKind.u64.wrap (l * 2 ^ min (IntKind.u64.wrap (lzI y)).toNat 64)) 4294967295) s_3.fst s_3.snd ∧
 s_3.fst.toNat < s_2.fst.toNat))
 (bcase (decide (IntKind.u64.wrap (s_2.fst * andI IntKind.u64 (IntKind.u64.wrap (y * 2 ^ min (IntKind.u64.wrap (lzI y)).toNat 64)) 4294967295) > IntKind.u64.wrap (IntKind.u64.wrap (4294967296 * s_2.snd) + andI IntKind.u64 (IntKind.u64.wrap (l * 2 ^ min (IntKind.u64.wrap (lzI y)).toNat 64)) 4294967295)))
 (bcase (decide (IntKind.u64.wrap (s_2.snd + (IntKind.u64.wrap (y * 2 ^ min (IntKind.u64.wrap (lzI y)).toNat 64)).fdiv (2 ^ 32)) ≥ 4294967296))
 (∃ (s_3 : Int),
 (IntKind.u64.wrap (y * 2 ^ min (IntKind.u64.wrap (lzI y)).toNat 64) = IntKind.u64.wrap (y * 2 ^ min (IntKind.u64.wrap (lzI y)).toNat 64) ∧
 IntKind.u64.wrap (lzI y) = IntKind.u64.wrap (lzI y) ∧
 (IntKind.u64.wrap (y * 2 ^ min (IntKind.u64.wrap (lzI y)).toNat 64)).fdiv (2 ^ 32) = (IntKind.u64.wrap (y * 2 ^ min (IntKind.u64.wrap (lzI y)).toNat 64)).fdiv (2 ^ 32) ∧
 andI IntKind.u64 (IntKind.u64.wrap (y * 2 ^ min (IntKind.u64.wrap (lzI y)).toNat 64)) 4294967295 = andI IntKind.u64 (IntKind.u64.wrap (y * 2 ^ min (IntKind.u64.wrap (lzI y)).toNat 64)) 4294967295 ∧
 orI IntKind.u64 (IntKind.u64.wrap (h * 2 ^ min (IntKind.u64.wrap (lzI y)).toNat 64)) (l.fdiv (2 ^ min (IntKind.u64.wrap (64 - IntKind.u64.wrap (lzI y))).toNat 64)) = orI IntKind.u64 (IntKind.u64.wrap (h * 2 ^ min (IntKind.u64.wrap (lzI y)).toNat 64)) (l.fdiv (2 ^ min (IntKind.u64.wrap (64 - IntKind.u64.wrap (lzI y))).toNat 64)) ∧
 (IntKind.u64.wrap (l * 2 ^ min (IntKind.u64.wrap (lzI y)).toNat 64)).fdiv (2 ^ 32) = (IntKind.u64.wrap (l * 2 ^ min (IntKind.u64.wrap (lzI y)).toNat 64)).fdiv (2 ^ 32) ∧
 andI IntKind.u64 (IntKind.u64.wrap (l * 2 ^ min (IntKind.u64.wrap (lzI y)).toNat 64)) 4294967295 = andI IntKind.u64 (IntKind.u64.wrap (l * 2 ^ min (IntKind.u64.wrap (lzI y)).toNat 64)) 4294967295 ∧
 s = s ∧
 IntKind.u64.wrap
 (IntKind.u64.wrap (IntKind.u64.wrap (orI IntKind.u64 (IntKind.u64.wrap (h * 2 ^ min (IntKind.u64.wrap (lzI y)).toNat 64)) (l.fdiv (2 ^ min (IntKind.u64.wrap (64 - IntKind.u64.wrap (lzI y))).toNat 64)) * 4294967296) + (IntKind.u64.wrap (l * 2 ^ min (IntKind.u64.wrap (lzI y)).toNat 64)).fdiv (2 ^ 32)) - IntKind.u64.wrap (s * IntKind.u64.wrap (y * 2 ^ min (IntKind.u64.wrap (lzI y)).toNat 64))) =
 IntKind.u64.wrap
 (IntKind.u64.wrap (IntKind.u64.wrap (orI IntKind.u64 (IntKind.u64.wrap (h * 2 ^ min (IntKind.u64.wrap (lzI y)).toNat 64)) (l.fdiv (2 ^ min (IntKind.u64.wrap (64 - IntKind.u64.wrap (lzI y))).toNat 64)) * 4294967296) + (IntKind.u64.wrap (l * 2 ^ min (IntKind.u64.wrap (lzI y)).toNat 64)).fdiv (2 ^ 32)) - IntKind.u64.wrap (s * IntKind.u64.wrap (y * 2 ^ min (IntKind.u64.wrap (lzI y)).toNat 64))) ∧
 IntKind.u64.wrap (s_2.fst - 1) = s_3 ∧ True) ∧
 s_3 =
 digI ((IntKind.u64.wrap (y * 2 ^ min (IntKind.u64.wrap (lzI y)).toNat 64)).fdiv (2 ^ 32)) (andI IntKind.u64 (IntKind.u64.wrap (y * 2 ^ min (IntKind.u64.wrap (lzI y)).toNat 64)) 4294967295)
 (IntKind.u64.wrap
 (IntKind.u64.wrap (IntKind.u64.wrap (orI IntKind.u64 (IntKind.u64.wrap (h * 2 ^ min (IntKind.u64.wrap (lzI y)).toNat 64)) (l.fdiv (2 ^ min (IntKind.u64.wrap (64 - IntKind.u64.wrap (lzI y))).toNat 64)) * 4294967296) + (IntKind.u64.wrap (l * 2 ^ min (IntKind.u64.wrap (lzI y)).toNat 64)).fdiv (2 ^ 32)) - IntKind.u64.wrap (s * IntKind.u64.wrap (y * 2 ^ min (IntKind.u64.wrap (lzI y)).toNat 64))))
 (andI IntKind.u64 (IntKind.u64.wrap (l * 2 ^ min (IntKind.u64.wrap (lzI y)).toNat 64)) 4294967295))
 (∃ (s_3 : Int × Int),
 (IntKind.u64.wrap (y * 2 ^ min (IntKind.u64.wrap (lzI y)).toNat 64) = IntKind.u64.wrap (y * 2 ^ min (IntKind.u64.wrap (lzI y)).toNat 64) ∧
 IntKind.u64.wrap (lzI y) = IntKind.u64.wrap (lzI y) ∧
 (IntKind.u64.wrap (y * 2 ^ min (IntKind.u64.wrap (lzI y)).toNat 64)).fdiv (2 ^ 32) = (IntKind.u64.wrap (y * 2 ^ min (IntKind.u64.wrap (lzI y)).toNat 64)).fdiv (2 ^ 32) ∧
 andI IntKind.u64 (IntKind.u64.wrap (y * 2 ^ min (IntKind.u64.wrap (lzI y)).toNat 64)) 4294967295 = andI IntKind.u64 (IntKind.u64.wrap (y * 2 ^ min (IntKind.u64.wrap (lzI y)).toNat 64)) 4294967295 ∧
 orI IntKind.u64 (IntKind.u64.wrap (h * 2 ^ min (IntKind.u64.wrap (lzI y)).toNat 64)) (l.fdiv (2 ^ min (IntKind.u64.wrap (64 - IntKind.u64.wrap (lzI y))).toNat 64)) = orI IntKind.u64 (IntKind.u64.wrap (h * 2 ^ min (IntKind.u64.wrap (lzI y)).toNat 64)) (l.fdiv (2 ^ min (IntKind.u64.wrap (64 - IntKind.u64.wrap (lzI y))).toNat 64)) ∧
 (IntKind.u64.wrap (l * 2 ^ min (IntKind.u64.wrap (lzI y)).toNat 64)).fdiv (2 ^ 32) = (IntKind.u64.wrap (l * 2 ^ min (IntKind.u64.wrap (lzI y)).toNat 64)).fdiv (2 ^ 32) ∧
 andI IntKind.u64 (IntKind.u64.wrap (l * 2 ^ min (IntKind.u64.wrap (lzI y)).toNat 64)) 4294967295 = andI IntKind.u64 (IntKind.u64.wrap (l * 2 ^ min (IntKind.u64.wrap (lzI y)).toNat 64)) 4294967295 ∧
 s = s ∧
 IntKind.u64.wrap (s_2.snd + (IntKind.u64.wrap (y * 2 ^ min (IntKind.u64.wrap (lzI y)).toNat 64)).fdiv (2 ^ 32)) = s_3.snd ∧
 IntKind.u64.wrap
 (IntKind.u64.wrap (IntKind.u64.wrap (orI IntKind.u64 (IntKind.u64.wrap (h * 2 ^ min (IntKind.u64.wrap (lzI y)).toNat 64)) (l.fdiv (2 ^ min (IntKind.u64.wrap (64 - IntKind.u64.wrap (lzI y))).toNat 64)) * 4294967296) + (IntKind.u64.wrap (l * 2 ^ min (IntKind.u64.wrap (lzI y)).toNat 64)).fdiv (2 ^ 32)) - IntKind.u64.wrap (s * IntKind.u64.wrap (y * 2 ^ min (IntKind.u64.wrap (lzI y)).toNat 64))) =
 IntKind.u64.wrap
 (IntKind.u64.wrap (IntKind.u64.wrap (orI IntKind.u64 (IntKind.u64.wrap (h * 2 ^ min (IntKind.u64.wrap (lzI y)).toNat 64)) (l.fdiv (2 ^ min (IntKind.u64.wrap (64 - IntKind.u64.wrap (lzI y))).toNat 64)) * 4294967296) + (IntKind.u64.wrap (l * 2 ^ min (IntKind.u64.wrap (lzI y)).toNat 64)).fdiv (2 ^ 32)) - IntKind.u64.wrap (s * IntKind.u64.wrap (y * 2 ^ min (IntKind.u64.wrap (lzI y)).toNat 64))) ∧
 IntKind.u64.wrap (s_2.fst - 1) = s_3.fst ∧ True) ∧
 Dig ((IntKind.u64.wrap (y * 2 ^ min (IntKind.u64.wrap (lzI y)).toNat 64)).fdiv (2 ^ 32)) (andI IntKind.u64 (IntKind.u64.wrap (y * 2 ^ min (IntKind.u64.wrap (lzI y)).toNat 64)) 4294967295)
 (IntKind.u64.wrap
 (IntKind.u64.wrap (IntKind.u64.wrap (orI IntKind.u64 (IntKind.u64.wrap (h * 2 ^ min (IntKind.u64.wrap (lzI y)).toNat 64)) (l.fdiv (2 ^ min (IntKind.u64.wrap (64 - IntKind.u64.wrap (lzI y))).toNat 64)) * 4294967296) + (IntKind.u64.wrap (l * 2 ^ min (IntKind.u64.wrap (lzI y)).toNat 64)).fdiv (2 ^ 32)) - IntKind.u64.wrap (s * IntKind.u64.wrap (y * 2 ^ min (IntKind.u64.wrap (lzI y)).toNat 64))))
 (andI IntKind.u64 (IntKind.u64.wrap (l * 2 ^ min (IntKind.u64.wrap (lzI y)).toNat 64)) 4294967295) s_3.fst s_3.snd ∧
 s_3.fst.toNat < s_2.fst.toNat))
 (∃ (s_3 : Int),
 (IntKind.u64.wrap (y * 2 ^ min (IntKind.u64.wrap (lzI y)).toNat 64) = IntKind.u64.wrap (y * 2 ^ min (IntKind.u64.wrap (lzI y)).toNat 64) ∧
 IntKind.u64.wrap (lzI y) = IntKind.u64.wrap (lzI y) ∧
 (IntKind.u64.wrap (y * 2 ^ min (IntKind.u64.wrap (lzI y)).toNat 64)).fdiv (2 ^ 32) = (IntKind.u64.wrap (y * 2 ^ min (IntKind.u64.wrap (lzI y)).toNat 64)).fdiv (2 ^ 32) ∧
 andI IntKind.u64 (IntKind.u64.wrap (y * 2 ^ min (IntKind.u64.wrap (lzI y)).toNat 64)) 4294967295 = andI IntKind.u64 (IntKind.u64.wrap (y * 2 ^ min (IntKind.u64.wrap (lzI y)).toNat 64)) 4294967295 ∧
 orI IntKind.u64 (IntKind.u64.wrap (h * 2 ^ min (IntKind.u64.wrap (lzI y)).toNat 64)) (l.fdiv (2 ^ min (IntKind.u64.wrap (64 - IntKind.u64.wrap (lzI y))).toNat 64)) = orI IntKind.u64 (IntKind.u64.wrap (h * 2 ^ min (IntKind.u64.wrap (lzI y)).toNat 64)) (l.fdiv (2 ^ min (IntKind.u64.wrap (64 - IntKind.u64.wrap (lzI y))).toNat 64)) ∧
 (IntKind.u64.wrap (l * 2 ^ min (IntKind.u64.wrap (lzI y)).toNat 64)).fdiv (2 ^ 32) = (IntKind.u64.wrap (l * 2 ^ min (IntKind.u64.wrap (lzI y)).toNat 64)).fdiv (2 ^ 32) ∧
 andI IntKind.u64 (IntKind.u64.wrap (l * 2 ^ min (IntKind.u64.wrap (lzI y)).toNat 64)) 4294967295 = andI IntKind.u64 (IntKind.u64.wrap (l * 2 ^ min (IntKind.u64.wrap (lzI y)).toNat 64)) 4294967295 ∧
 s = s ∧
 IntKind.u64.wrap
 (IntKind.u64.wrap (IntKind.u64.wrap (orI IntKind.u64 (IntKind.u64.wrap (h * 2 ^ min (IntKind.u64.wrap (lzI y)).toNat 64)) (l.fdiv (2 ^ min (IntKind.u64.wrap (64 - IntKind.u64.wrap (lzI y))).toNat 64)) * 4294967296) + (IntKind.u64.wrap (l * 2 ^ min (IntKind.u64.wrap (lzI y)).toNat 64)).fdiv (2 ^ 32)) - IntKind.u64.wrap (s * IntKind.u64.wrap (y * 2 ^ min (IntKind.u64.wrap (lzI y)).toNat 64))) =
 IntKind.u64.wrap
 (IntKind.u64.wrap (IntKind.u64.wrap (orI IntKind.u64 (IntKind.u64.wrap (h * 2 ^ min (IntKind.u64.wrap (lzI y)).toNat 64)) (l.fdiv (2 ^ min (IntKind.u64.wrap (64 - IntKind.u64.wrap (lzI y))).toNat 64)) * 4294967296) + (IntKind.u64.wrap (l * 2 ^ min (IntKind.u64.wrap (lzI y)).toNat 64)).fdiv (2 ^ 32)) - IntKind.u64.wrap (s * IntKind.u64.wrap (y * 2 ^ min (IntKind.u64.wrap (lzI y)).toNat 64))) ∧
 s_2.fst = s_3 ∧ True) ∧
 s_3 =
 digI ((IntKind.u64.wrap (y * 2 ^ min (IntKind.u64.wrap (lzI y)).toNat 64)).fdiv (2 ^ 32)) (andI IntKind.u64 (IntKind.u64.wrap (y * 2 ^ min (IntKind.u64.wrap (lzI y)).toNat 64)) 4294967295)
 (IntKind.u64.wrap
 (IntKind.u64.wrap (IntKind.u64.wrap (orI IntKind.u64 (IntKind.u64.wrap (h * 2 ^ min (IntKind.u64.wrap (lzI y)).toNat 64)) (l.fdiv (2 ^ min (IntKind.u64.wrap (64 - IntKind.u64.wrap (lzI y))).toNat 64)) * 4294967296) + (IntKind.u64.wrap (l * 2 ^ min (IntKind.u64.wrap (lzI y)).toNat 64)).fdiv (2 ^ 32)) - IntKind.u64.wrap (s * IntKind.u64.wrap (y * 2 ^ min (IntKind.u64.wrap (lzI y)).toNat 64))))
 (andI IntKind.u64 (IntKind.u64.wrap (l * 2 ^ min (IntKind.u64.wrap (lzI y)).toNat 64)) 4294967295))))) ∧
 ∃ (s : Int × Int),
 (IntKind.u64.wrap (y * 2 ^ min (IntKind.u64.wrap (lzI y)).toNat 64) = IntKind.u64.wrap (y * 2 ^ min (IntKind.u64.wrap (lzI y)).toNat 64) ∧
 IntKind.u64.wrap (lzI y) = IntKind.u64.wrap (lzI y) ∧
 (IntKind.u64.wrap (y * 2 ^ min (IntKind.u64.wrap (lzI y)).toNat 64)).fdiv (2 ^ 32) = (IntKind.u64.wrap (y * 2 ^ min (IntKind.u64.wrap (lzI y)).toNat 64)).fdiv (2 ^ 32) ∧
 andI IntKind.u64 (IntKind.u64.wrap (y * 2 ^ min (IntKind.u64.wrap (lzI y)).toNat 64)) 4294967295 = andI IntKind.u64 (IntKind.u64.wrap (y * 2 ^ min (IntKind.u64.wrap (lzI y)).toNat 64)) 4294967295 ∧
 orI IntKind.u64 (IntKind.u64.wrap (h * 2 ^ min (IntKind.u64.wrap (lzI y)).toNat 64)) (l.fdiv (2 ^ min (IntKind.u64.wrap (64 - IntKind.u64.wrap (lzI y))).toNat 64)) = orI IntKind.u64 (IntKind.u64.wrap (h * 2 ^ min (IntKind.u64.wrap (lzI y)).toNat 64)) (l.fdiv (2 ^ min (IntKind.u64.wrap (64 - IntKind.u64.wrap (lzI y))).toNat 64)) ∧
 (IntKind.u64.wrap (l * 2 ^ min (IntKind.u64.wrap (lzI y)).toNat 64)).fdiv (2 ^ 32) = (IntKind.u64.wrap (l * 2 ^ min (IntKind.u64.wrap (lzI y)).toNat 64)).fdiv (2 ^ 32) ∧
 andI IntKind.u64 (IntKind.u64.wrap (l * 2 ^ min (IntKind.u64.wrap (lzI y)).toNat 64)) 4294967295 = andI IntKind.u64 (IntKind.u64.wrap (l * 2 ^ min (IntKind.u64.wrap (lzI y)).toNat 64)) 4294967295 ∧
 IntKind.u64.wrap ((orI IntKind.u64 (IntKind.u64.wrap (h * 2 ^ min (IntKind.u64.wrap (lzI y)).toNat 64)) (l.fdiv (2 ^ min (IntKind.u64.wrap (64 - IntKind.u64.wrap (lzI y))).toNat 64))).tdiv ((IntKind.u64.wrap (y * 2 ^ min (IntKind.u64.wrap (lzI y)).toNat 64)).fdiv (2 ^ 32))) = s.fst ∧
 IntKind.u64.wrap
 (orI IntKind.u64 (IntKind.u64.wrap (h * 2 ^ min (IntKind.u64.wrap (lzI y)).toNat 64)) (l.fdiv (2 ^ min (IntKind.u64.wrap (64 - IntKind.u64.wrap (lzI y))).toNat 64)) -
 IntKind.u64.wrap (IntKind.u64.wrap ((orI IntKind.u64 (IntKind.u64.wrap (h * 2 ^ min (IntKind.u64.wrap (lzI y)).toNat 64)) (l.fdiv (2 ^ min (IntKind.u64.wrap (64 - IntKind.u64.wrap (lzI y))).toNat 64))).tdiv ((IntKind.u64.wrap (y * 2 ^ min (IntKind.u64.wrap (lzI y)).toNat 64)).fdiv (2 ^ 32))) * (IntKind.u64.wrap (y * 2 ^ min (IntKind.u64.wrap (lzI y)).toNat 64)).fdiv (2 ^ 32))) =
 s.snd ∧
 Value.tuple #[] = Value.tuple #[] ∧ True) ∧
 Dig ((IntKind.u64.wrap (y * 2 ^ min (IntKind.u64.wrap (lzI y)).toNat 64)).fdiv (2 ^ 32)) (andI IntKind.u64 (IntKind.u64.wrap (y * 2 ^ min (IntKind.u64.wrap (lzI y)).toNat 64)) 4294967295) (orI IntKind.u64 (IntKind.u64.wrap (h * 2 ^ min (IntKind.u64.wrap (lzI y)).toNat 64)) (l.fdiv (2 ^ min (IntKind.u64.wrap (64 - IntKind.u64.wrap (lzI y))).toNat 64)))
 ((IntKind.u64.wrap (l * 2 ^ min (IntKind.u64.wrap (lzI y)).toNat 64)).fdiv (2 ^ 32)) s.fst s.snd ∧
 ∀ (s : Int × Int),
 Dig ((IntKind.u64.wrap (y * 2 ^ min (IntKind.u64.wrap (lzI y)).toNat 64)).fdiv (2 ^ 32)) (andI IntKind.u64 (IntKind.u64.wrap (y * 2 ^ min (IntKind.u64.wrap (lzI y)).toNat 64)) 4294967295) (orI IntKind.u64 (IntKind.u64.wrap (h * 2 ^ min (IntKind.u64.wrap (lzI y)).toNat 64)) (l.fdiv (2 ^ min (IntKind.u64.wrap (64 - IntKind.u64.wrap (lzI y))).toNat 64)))
 ((IntKind.u64.wrap (l * 2 ^ min (IntKind.u64.wrap (lzI y)).toNat 64)).fdiv (2 ^ 32)) s.fst s.snd →
 bcase (decide (s.fst ≥ 4294967296))
 (bcase (decide (IntKind.u64.wrap (s.snd + (IntKind.u64.wrap (y * 2 ^ min (IntKind.u64.wrap (lzI y)).toNat 64)).fdiv (2 ^ 32)) ≥ 4294967296))
 (∃ (s_1 : Int),
 (IntKind.u64.wrap (y * 2 ^ min (IntKind.u64.wrap (lzI y)).toNat 64) = IntKind.u64.wrap (y * 2 ^ min (IntKind.u64.wrap (lzI y)).toNat 64) ∧
 IntKind.u64.wrap (lzI y) = IntKind.u64.wrap (lzI y) ∧
 (IntKind.u64.wrap (y * 2 ^ min (IntKind.u64.wrap (lzI y)).toNat 64)).fdiv (2 ^ 32) = (IntKind.u64.wrap (y * 2 ^ min (IntKind.u64.wrap (lzI y)).toNat 64)).fdiv (2 ^ 32) ∧
 andI IntKind.u64 (IntKind.u64.wrap (y * 2 ^ min (IntKind.u64.wrap (lzI y)).toNat 64)) 4294967295 = andI IntKind.u64 (IntKind.u64.wrap (y * 2 ^ min (IntKind.u64.wrap (lzI y)).toNat 64)) 4294967295 ∧
 orI IntKind.u64 (IntKind.u64.wrap (h * 2 ^ min (IntKind.u64.wrap (lzI y)).toNat 64)) (l.fdiv (2 ^ min (IntKind.u64.wrap (64 - IntKind.u64.wrap (lzI y))).toNat 64)) = orI IntKind.u64 (IntKind.u64.wrap (h * 2 ^ min (IntKind.u64.wrap (lzI y)).toNat 64)) (l.fdiv (2 ^ min (IntKind.u64.wrap (64 - IntKind.u64.wrap (lzI y))).toNat 64)) ∧
 (IntKind.u64.wrap (l * 2 ^ min (IntKind.u64.wrap (lzI y)).toNat 64)).fdiv (2 ^ 32) = (IntKind.u64.wrap (l * 2 ^ min (IntKind.u64.wrap (lzI y)).toNat 64)).fdiv (2 ^ 32) ∧
 andI IntKind.u64 (IntKind.u64.wrap (l * 2 ^ min (IntKind.u64.wrap (lzI y)).toNat 64)) 4294967295 = andI IntKind.u64 (IntKind.u64.wrap (l * 2 ^ min (IntKind.u64.wrap (lzI y)).toNat 64)) 4294967295 ∧ IntKind.u64.wrap (s.fst - 1) = s_1 ∧ Value.tuple #[] = Value.tuple #[] ∧ True) ∧
 s_1 =
 digI ((IntKind.u64.wrap (y * 2 ^ min (IntKind.u64.wrap (lzI y)).toNat 64)).fdiv (2 ^ 32)) (andI IntKind.u64 (IntKind.u64.wrap (y * 2 ^ min (IntKind.u64.wrap (lzI y)).toNat 64)) 4294967295) (orI IntKind.u64 (IntKind.u64.wrap (h * 2 ^ min (IntKind.u64.wrap (lzI y)).toNat 64)) (l.fdiv (2 ^ min (IntKind.u64.wrap (64 - IntKind.u64.wrap (lzI y))).toNat 64)))
 ((IntKind.u64.wrap (l * 2 ^ min (IntKind.u64.wrap (lzI y)).toNat 64)).fdiv (2 ^ 32)))
 (∃ (s_1 : Int × Int),
 (IntKind.u64.wrap (y * 2 ^ min (IntKind.u64.wrap (lzI y)).toNat 64) = IntKind.u64.wrap (y * 2 ^ min (IntKind.u64.wrap (lzI y)).toNat 64) ∧
 IntKind.u64.wrap (lzI y) = IntKind.u64.wrap (lzI y) ∧
 (IntKind.u64.wrap (y * 2 ^ min (IntKind.u64.wrap (lzI y)).toNat 64)).fdiv (2 ^ 32) = (IntKind.u64.wrap (y * 2 ^ min (IntKind.u64.wrap (lzI y)).toNat 64)).fdiv (2 ^ 32) ∧
 andI IntKind.u64 (IntKind.u64.wrap (y * 2 ^ min (IntKind.u64.wrap (lzI y)).toNat 64)) 4294967295 = andI IntKind.u64 (IntKind.u64.wrap (y * 2 ^ min (IntKind.u64.wrap (lzI y)).toNat 64)) 4294967295 ∧
 orI IntKind.u64 (IntKind.u64.wrap (h * 2 ^ min (IntKind.u64.wrap (lzI y)).toNat 64)) (l.fdiv (2 ^ min (IntKind.u64.wrap (64 - IntKind.u64.wrap (lzI y))).toNat 64)) = orI IntKind.u64 (IntKind.u64.wrap (h * 2 ^ min (IntKind.u64.wrap (lzI y)).toNat 64)) (l.fdiv (2 ^ min (IntKind.u64.wrap (64 - IntKind.u64.wrap (lzI y))).toNat 64)) ∧
 (IntKind.u64.wrap (l * 2 ^ min (IntKind.u64.wrap (lzI y)).toNat 64)).fdiv (2 ^ 32) = (IntKind.u64.wrap (l * 2 ^ min (IntKind.u64.wrap (lzI y)).toNat 64)).fdiv (2 ^ 32) ∧
 andI IntKind.u64 (IntKind.u64.wrap (l * 2 ^ min (IntKind.u64.wrap (lzI y)).toNat 64)) 4294967295 = andI IntKind.u64 (IntKind.u64.wrap (l * 2 ^ min (IntKind.u64.wrap (lzI y)).toNat 64)) 4294967295 ∧
 IntKind.u64.wrap (s.fst - 1) = s_1.fst ∧ IntKind.u64.wrap (s.snd + (IntKind.u64.wrap (y * 2 ^ min (IntKind.u64.wrap (lzI y)).toNat 64)).fdiv (2 ^ 32)) = s_1.snd ∧ Value.tuple #[] = Value.tuple #[] ∧ True) ∧
 Dig ((IntKind.u64.wrap (y * 2 ^ min (IntKind.u64.wrap (lzI y)).toNat 64)).fdiv (2 ^ 32)) (andI IntKind.u64 (IntKind.u64.wrap (y * 2 ^ min (IntKind.u64.wrap (lzI y)).toNat 64)) 4294967295) (orI IntKind.u64 (IntKind.u64.wrap (h * 2 ^ min (IntKind.u64.wrap (lzI y)).toNat 64)) (l.fdiv (2 ^ min (IntKind.u64.wrap (64 - IntKind.u64.wrap (lzI y))).toNat 64)))
 ((IntKind.u64.wrap (l * 2 ^ min (IntKind.u64.wrap (lzI y)).toNat 64)).fdiv (2 ^ 32)) s_1.fst s_1.snd ∧
 s_1.fst.toNat < s.fst.toNat))
 (bcase (decide (IntKind.u64.wrap (s.fst * andI IntKind.u64 (IntKind.u64.wrap (y * 2 ^ min (IntKind.u64.wrap (lzI y)).toNat 64)) 4294967295) > IntKind.u64.wrap (IntKind.u64.wrap (4294967296 * s.snd) + (IntKind.u64.wrap (l * 2 ^ min (IntKind.u64.wrap (lzI y)).toNat 64)).fdiv (2 ^ 32))))
 (bcase (decide (IntKind.u64.wrap (s.snd + (IntKind.u64.wrap (y * 2 ^ min (IntKind.u64.wrap (lzI y)).toNat 64)).fdiv (2 ^ 32)) ≥ 4294967296))
 (∃ (s_1 : Int),
 (IntKind.u64.wrap (y * 2 ^ min (IntKind.u64.wrap (lzI y)).toNat 64) = IntKind.u64.wrap (y * 2 ^ min (IntKind.u64.wrap (lzI y)).toNat 64) ∧
 IntKind.u64.wrap (lzI y) = IntKind.u64.wrap (lzI y) ∧
 (IntKind.u64.wrap (y * 2 ^ min (IntKind.u64.wrap (lzI y)).toNat 64)).fdiv (2 ^ 32) = (IntKind.u64.wrap (y * 2 ^ min (IntKind.u64.wrap (lzI y)).toNat 64)).fdiv (2 ^ 32) ∧
 andI IntKind.u64 (IntKind.u64.wrap (y * 2 ^ min (IntKind.u64.wrap (lzI y)).toNat 64)) 4294967295 = andI IntKind.u64 (IntKind.u64.wrap (y * 2 ^ min (IntKind.u64.wrap (lzI y)).toNat 64)) 4294967295 ∧
 orI IntKind.u64 (IntKind.u64.wrap (h * 2 ^ min (IntKind.u64.wrap (lzI y)).toNat 64)) (l.fdiv (2 ^ min (IntKind.u64.wrap (64 - IntKind.u64.wrap (lzI y))).toNat 64)) = orI IntKind.u64 (IntKind.u64.wrap (h * 2 ^ min (IntKind.u64.wrap (lzI y)).toNat 64)) (l.fdiv (2 ^ min (IntKind.u64.wrap (64 - IntKind.u64.wrap (lzI y))).toNat 64)) ∧
 (IntKind.u64.wrap (l * 2 ^ min (IntKind.u64.wrap (lzI y)).toNat 64)).fdiv (2 ^ 32) = (IntKind.u64.wrap (l * 2 ^ min (IntKind.u64.wrap (lzI y)).toNat 64)).fdiv (2 ^ 32) ∧
 andI IntKind.u64 (IntKind.u64.wrap (l * 2 ^ min (IntKind.u64.wrap (lzI y)).toNat 64)) 4294967295 = andI IntKind.u64 (IntKind.u64.wrap (l * 2 ^ min (IntKind.u64.wrap (lzI y)).toNat 64)) 4294967295 ∧ IntKind.u64.wrap (s.fst - 1) = s_1 ∧ Value.tuple #[] = Value.tuple #[] ∧ True) ∧
 s_1 =
 digI ((IntKind.u64.wrap (y * 2 ^ min (IntKind.u64.wrap (lzI y)).toNat 64)).fdiv (2 ^ 32)) (andI IntKind.u64 (IntKind.u64.wrap (y * 2 ^ min (IntKind.u64.wrap (lzI y)).toNat 64)) 4294967295) (orI IntKind.u64 (IntKind.u64.wrap (h * 2 ^ min (IntKind.u64.wrap (lzI y)).toNat 64)) (l.fdiv (2 ^ min (IntKind.u64.wrap (64 - IntKind.u64.wrap (lzI y))).toNat 64)))
 ((IntKind.u64.wrap (l * 2 ^ min (IntKind.u64.wrap (lzI y)).toNat 64)).fdiv (2 ^ 32)))
 (∃ (s_1 : Int × Int),
 (IntKind.u64.wrap (y * 2 ^ min (IntKind.u64.wrap (lzI y)).toNat 64) = IntKind.u64.wrap (y * 2 ^ min (IntKind.u64.wrap (lzI y)).toNat 64) ∧
 IntKind.u64.wrap (lzI y) = IntKind.u64.wrap (lzI y) ∧
 (IntKind.u64.wrap (y * 2 ^ min (IntKind.u64.wrap (lzI y)).toNat 64)).fdiv (2 ^ 32) = (IntKind.u64.wrap (y * 2 ^ min (IntKind.u64.wrap (lzI y)).toNat 64)).fdiv (2 ^ 32) ∧
 andI IntKind.u64 (IntKind.u64.wrap (y * 2 ^ min (IntKind.u64.wrap (lzI y)).toNat 64)) 4294967295 = andI IntKind.u64 (IntKind.u64.wrap (y * 2 ^ min (IntKind.u64.wrap (lzI y)).toNat 64)) 4294967295 ∧
 orI IntKind.u64 (IntKind.u64.wrap (h * 2 ^ min (IntKind.u64.wrap (lzI y)).toNat 64)) (l.fdiv (2 ^ min (IntKind.u64.wrap (64 - IntKind.u64.wrap (lzI y))).toNat 64)) = orI IntKind.u64 (IntKind.u64.wrap (h * 2 ^ min (IntKind.u64.wrap (lzI y)).toNat 64)) (l.fdiv (2 ^ min (IntKind.u64.wrap (64 - IntKind.u64.wrap (lzI y))).toNat 64)) ∧
 (IntKind.u64.wrap (l * 2 ^ min (IntKind.u64.wrap (lzI y)).toNat 64)).fdiv (2 ^ 32) = (IntKind.u64.wrap (l * 2 ^ min (IntKind.u64.wrap (lzI y)).toNat 64)).fdiv (2 ^ 32) ∧
 andI IntKind.u64 (IntKind.u64.wrap (l * 2 ^ min (IntKind.u64.wrap (lzI y)).toNat 64)) 4294967295 = andI IntKind.u64 (IntKind.u64.wrap (l * 2 ^ min (IntKind.u64.wrap (lzI y)).toNat 64)) 4294967295 ∧
 IntKind.u64.wrap (s.fst - 1) = s_1.fst ∧ IntKind.u64.wrap (s.snd + (IntKind.u64.wrap (y * 2 ^ min (IntKind.u64.wrap (lzI y)).toNat 64)).fdiv (2 ^ 32)) = s_1.snd ∧ Value.tuple #[] = Value.tuple #[] ∧ True) ∧
 Dig ((IntKind.u64.wrap (y * 2 ^ min (IntKind.u64.wrap (lzI y)).toNat 64)).fdiv (2 ^ 32)) (andI IntKind.u64 (IntKind.u64.wrap (y * 2 ^ min (IntKind.u64.wrap (lzI y)).toNat 64)) 4294967295) (orI IntKind.u64 (IntKind.u64.wrap (h * 2 ^ min (IntKind.u64.wrap (lzI y)).toNat 64)) (l.fdiv (2 ^ min (IntKind.u64.wrap (64 - IntKind.u64.wrap (lzI y))).toNat 64)))
 ((IntKind.u64.wrap (l * 2 ^ min (IntKind.u64.wrap (lzI y)).toNat 64)).fdiv (2 ^ 32)) s_1.fst s_1.snd ∧
 s_1.fst.toNat < s.fst.toNat))
 (∃ (s_1 : Int),
 (IntKind.u64.wrap (y * 2 ^ min (IntKind.u64.wrap (lzI y)).toNat 64) = IntKind.u64.wrap (y * 2 ^ min (IntKind.u64.wrap (lzI y)).toNat 64) ∧
 IntKind.u64.wrap (lzI y) = IntKind.u64.wrap (lzI y) ∧
 (IntKind.u64.wrap (y * 2 ^ min (IntKind.u64.wrap (lzI y)).toNat 64)).fdiv (2 ^ 32) = (IntKind.u64.wrap (y * 2 ^ min (IntKind.u64.wrap (lzI y)).toNat 64)).fdiv (2 ^ 32) ∧
 andI IntKind.u64 (IntKind.u64.wrap (y * 2 ^ min (IntKind.u64.wrap (lzI y)).toNat 64)) 4294967295 = andI IntKind.u64 (IntKind.u64.wrap (y * 2 ^ min (IntKind.u64.wrap (lzI y)).toNat 64)) 4294967295 ∧
 orI IntKind.u64 (IntKind.u64.wrap (h * 2 ^ min (IntKind.u64.wrap (lzI y)).toNat 64)) (l.fdiv (2 ^ min (IntKind.u64.wrap (64 - IntKind.u64.wrap (lzI y))).toNat 64)) = orI IntKind.u64 (IntKind.u64.wrap (h * 2 ^ min (IntKind.u64.wrap (lzI y)).toNat 64)) (l.fdiv (2 ^ min (IntKind.u64.wrap (64 - IntKind.u64.wrap (lzI y))).toNat 64)) ∧
 (IntKind.u64.wrap (l * 2 ^ min (IntKind.u64.wrap (lzI y)).toNat 64)).fdiv (2 ^ 32) = (IntKind.u64.wrap (l * 2 ^ min (IntKind.u64.wrap (lzI y)).toNat 64)).fdiv (2 ^ 32) ∧
 andI IntKind.u64 (IntKind.u64.wrap (l * 2 ^ min (IntKind.u64.wrap (lzI y)).toNat 64)) 4294967295 = andI IntKind.u64 (IntKind.u64.wrap (l * 2 ^ min (IntKind.u64.wrap (lzI y)).toNat 64)) 4294967295 ∧ s.fst = s_1 ∧ Value.tuple #[] = Value.tuple #[] ∧ True) ∧
 s_1 =
 digI ((IntKind.u64.wrap (y * 2 ^ min (IntKind.u64.wrap (lzI y)).toNat 64)).fdiv (2 ^ 32)) (andI IntKind.u64 (IntKind.u64.wrap (y * 2 ^ min (IntKind.u64.wrap (lzI y)).toNat 64)) 4294967295) (orI IntKind.u64 (IntKind.u64.wrap (h * 2 ^ min (IntKind.u64.wrap (lzI y)).toNat 64)) (l.fdiv (2 ^ min (IntKind.u64.wrap (64 - IntKind.u64.wrap (lzI y))).toNat 64)))
 ((IntKind.u64.wrap (l * 2 ^ min (IntKind.u64.wrap (lzI y)).toNat 64)).fdiv (2 ^ 32))))))))))))) := by kernel_rfl
end Go.Proofs.YtidhogcijghogaaGreatDoor
