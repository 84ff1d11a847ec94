/- Refraction: what the functions of the reference ask. -/
import Derived.Test.YtidhogcijghogaaGreatDoorRfrS
namespace Go.Proofs.YtidhogcijghogaaGreatDoor
open Go Go.Abs Go.RowKit
set_option linter.unusedVariables false
set_option linter.unusedSimpArgs false
theorem vc_r4ceil (n d : Int) (K : Value → Prop) : callsX Tryz.prog (ΓR4c) (noAnn) 50 [num n, num d] K = (
 (I64 (IntKind.i64.wrap (0 - n)) ∧ 0 < d) ∧ K (Value.int IntKind.i64 (IntKind.i64.wrap (0 - IntKind.i64.wrap (0 - n) / d)))) := by kernel_rfl
theorem vc_r20bent (u : Int) (K : Value → Prop) : callsX Tryz.prog (ΓRp) (noAnn) 30 [num u] K = (
 bcase (IntKind.i64.wrap (u + 264000) == 0) False ((I64 26316000000 ∧ I64 (-26316000000) ∧ 0 < IntKind.i64.wrap (u + 264000)) ∧ K (Value.agg #[Value.int IntKind.i64 (IntKind.i64.wrap (u + IntKind.i64.wrap (Int.tdiv 26316000000 (IntKind.i64.wrap (u + 264000))))), Value.int IntKind.i64 (IntKind.i64.wrap (u + -(-26316000000 / IntKind.i64.wrap (u + 264000))))]))) := by kernel_rfl
theorem vc_r20one (u : Int) (K : Value → Prop) : callsX Tryz.prog (ΓRq20) (noAnn) 15 [num u] K = (
 RU u ∧
 ArcV (bL u) (bH u) ∧
 ArcV (bL u) (bH u) ∧
 QuoP (cL (bL u) (bH u)) (cH (bL u) (bH u)) (encL (bL u) (bH u)) (encH (bL u) (bH u)) 1000 ∧
 K
 (Value.agg
 #[Value.int IntKind.i64 (gate (okF (cL (bL u) (bH u)) (cH (bL u) (bH u)) (encL (bL u) (bH u)) (encH (bL u) (bH u)) 1000) (qL (cL (bL u) (bH u)) (cH (bL u) (bH u)) (encL (bL u) (bH u)) (encH (bL u) (bH u)) 1000)),
 Value.int IntKind.i64 (gate (okF (cL (bL u) (bH u)) (cH (bL u) (bH u)) (encL (bL u) (bH u)) (encH (bL u) (bH u)) 1000) (qH (cL (bL u) (bH u)) (cH (bL u) (bH u)) (encL (bL u) (bH u)) (encH (bL u) (bH u)) 1000))])) := by kernel_rfl
end Go.Proofs.YtidhogcijghogaaGreatDoor
