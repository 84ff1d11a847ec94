/- The examples that TopTangents looks at: what they ask. -/
import Derived.Test.YtjdcicjhpegphaaGreatWaS
namespace Go.Proofs.YtjdcicjhpegphaaGreat
open Go Go.Abs Go.RowKit Go.Sine
set_option linter.unusedVariables false
set_option linter.unusedSimpArgs false
theorem vc_gcone (n : Int) (K : Value → Prop) : callsX Tryz.prog ([]) (noAnn) 71 [num n] K = (
 K (Value.agg #[Value.int IntKind.i64 n, Value.int IntKind.i64 n])) := by kernel_rfl
theorem vc_gccourse (k : Nat) (sl sh kl kh : Int → Int → Int) (ml mh zl zh : Int → Int → Int → Int → Int) (K : Value → Prop) : callsX Tryz.prog (ΓGc k sl sh kl kh ml mh zl zh) (noAnn) 42 [ptr k, wid 0 0, wid 0 3600000] K = (
 True ∧
 True ∧
 PbA k k (sgI (IntKind.i64.wrap (3600000 - 0))) (sgI (IntKind.i64.wrap (3600000 - 0))) ∧
 True ∧
 PbA k k 0 0 ∧
 PbO k k (sl (sgI (IntKind.i64.wrap (3600000 - 0))) (sgI (IntKind.i64.wrap (3600000 - 0)))) (sh (sgI (IntKind.i64.wrap (3600000 - 0))) (sgI (IntKind.i64.wrap (3600000 - 0)))) (kl 0 0) (kh 0 0) ∧
 True ∧
 PbA k k 0 0 ∧
 True ∧
 PbA k k 0 0 ∧
 PbO k k (kl 0 0) (kh 0 0) (sl 0 0) (sh 0 0) ∧
 True ∧
 PbA k k 0 0 ∧
 True ∧
 PbA k k 0 0 ∧
 PbO k k (sl 0 0) (sh 0 0) (kl 0 0) (kh 0 0) ∧
 PbA k k (sgI (IntKind.i64.wrap (3600000 - 0))) (sgI (IntKind.i64.wrap (3600000 - 0))) ∧
 PbO k k (ml (sl 0 0) (sh 0 0) (kl 0 0) (kh 0 0)) (mh (sl 0 0) (sh 0 0) (kl 0 0) (kh 0 0)) (kl (sgI (IntKind.i64.wrap (3600000 - 0))) (sgI (IntKind.i64.wrap (3600000 - 0)))) (kh (sgI (IntKind.i64.wrap (3600000 - 0))) (sgI (IntKind.i64.wrap (3600000 - 0)))) ∧
 PbO k k (ml (kl 0 0) (kh 0 0) (sl 0 0) (sh 0 0)) (mh (kl 0 0) (kh 0 0) (sl 0 0) (sh 0 0)) (ml (ml (sl 0 0) (sh 0 0) (kl 0 0) (kh 0 0)) (mh (sl 0 0) (sh 0 0) (kl 0 0) (kh 0 0)) (kl (sgI (IntKind.i64.wrap (3600000 - 0))) (sgI (IntKind.i64.wrap (3600000 - 0)))) (kh (sgI (IntKind.i64.wrap (3600000 - 0))) (sgI (IntKind.i64.wrap (3600000 - 0)))))
 (mh (ml (sl 0 0) (sh 0 0) (kl 0 0) (kh 0 0)) (mh (sl 0 0) (sh 0 0) (kl 0 0) (kh 0 0)) (kl (sgI (IntKind.i64.wrap (3600000 - 0))) (sgI (IntKind.i64.wrap (3600000 - 0)))) (kh (sgI (IntKind.i64.wrap (3600000 - 0))) (sgI (IntKind.i64.wrap (3600000 - 0))))) ∧
 BgOk (ml (sl (sgI (IntKind.i64.wrap (3600000 - 0))) (sgI (IntKind.i64.wrap (3600000 - 0)))) (sh (sgI (IntKind.i64.wrap (3600000 - 0))) (sgI (IntKind.i64.wrap (3600000 - 0)))) (kl 0 0) (kh 0 0)) (mh (sl (sgI (IntKind.i64.wrap (3600000 - 0))) (sgI (IntKind.i64.wrap (3600000 - 0)))) (sh (sgI (IntKind.i64.wrap (3600000 - 0))) (sgI (IntKind.i64.wrap (3600000 - 0)))) (kl 0 0) (kh 0 0))
 (ml (kl 0 0) (kh 0 0) (sl 0 0) (sh 0 0) - mh (ml (sl 0 0) (sh 0 0) (kl 0 0) (kh 0 0)) (mh (sl 0 0) (sh 0 0) (kl 0 0) (kh 0 0)) (kl (sgI (IntKind.i64.wrap (3600000 - 0))) (sgI (IntKind.i64.wrap (3600000 - 0)))) (kh (sgI (IntKind.i64.wrap (3600000 - 0))) (sgI (IntKind.i64.wrap (3600000 - 0)))))
 (mh (kl 0 0) (kh 0 0) (sl 0 0) (sh 0 0) - ml (ml (sl 0 0) (sh 0 0) (kl 0 0) (kh 0 0)) (mh (sl 0 0) (sh 0 0) (kl 0 0) (kh 0 0)) (kl (sgI (IntKind.i64.wrap (3600000 - 0))) (sgI (IntKind.i64.wrap (3600000 - 0)))) (kh (sgI (IntKind.i64.wrap (3600000 - 0))) (sgI (IntKind.i64.wrap (3600000 - 0))))) ∧
 KpOk k k 0 ∧
 K
 (Value.agg
 #[Value.int IntKind.i64
 (zl (ml (sl (sgI (IntKind.i64.wrap (3600000 - 0))) (sgI (IntKind.i64.wrap (3600000 - 0)))) (sh (sgI (IntKind.i64.wrap (3600000 - 0))) (sgI (IntKind.i64.wrap (3600000 - 0)))) (kl 0 0) (kh 0 0)) (mh (sl (sgI (IntKind.i64.wrap (3600000 - 0))) (sgI (IntKind.i64.wrap (3600000 - 0)))) (sh (sgI (IntKind.i64.wrap (3600000 - 0))) (sgI (IntKind.i64.wrap (3600000 - 0)))) (kl 0 0) (kh 0 0))
 (ml (kl 0 0) (kh 0 0) (sl 0 0) (sh 0 0) - mh (ml (sl 0 0) (sh 0 0) (kl 0 0) (kh 0 0)) (mh (sl 0 0) (sh 0 0) (kl 0 0) (kh 0 0)) (kl (sgI (IntKind.i64.wrap (3600000 - 0))) (sgI (IntKind.i64.wrap (3600000 - 0)))) (kh (sgI (IntKind.i64.wrap (3600000 - 0))) (sgI (IntKind.i64.wrap (3600000 - 0)))))
 (mh (kl 0 0) (kh 0 0) (sl 0 0) (sh 0 0) - ml (ml (sl 0 0) (sh 0 0) (kl 0 0) (kh 0 0)) (mh (sl 0 0) (sh 0 0) (kl 0 0) (kh 0 0)) (kl (sgI (IntKind.i64.wrap (3600000 - 0))) (sgI (IntKind.i64.wrap (3600000 - 0)))) (kh (sgI (IntKind.i64.wrap (3600000 - 0))) (sgI (IntKind.i64.wrap (3600000 - 0)))))),
 Value.int IntKind.i64
 (zh (ml (sl (sgI (IntKind.i64.wrap (3600000 - 0))) (sgI (IntKind.i64.wrap (3600000 - 0)))) (sh (sgI (IntKind.i64.wrap (3600000 - 0))) (sgI (IntKind.i64.wrap (3600000 - 0)))) (kl 0 0) (kh 0 0)) (mh (sl (sgI (IntKind.i64.wrap (3600000 - 0))) (sgI (IntKind.i64.wrap (3600000 - 0)))) (sh (sgI (IntKind.i64.wrap (3600000 - 0))) (sgI (IntKind.i64.wrap (3600000 - 0)))) (kl 0 0) (kh 0 0))
 (ml (kl 0 0) (kh 0 0) (sl 0 0) (sh 0 0) - mh (ml (sl 0 0) (sh 0 0) (kl 0 0) (kh 0 0)) (mh (sl 0 0) (sh 0 0) (kl 0 0) (kh 0 0)) (kl (sgI (IntKind.i64.wrap (3600000 - 0))) (sgI (IntKind.i64.wrap (3600000 - 0)))) (kh (sgI (IntKind.i64.wrap (3600000 - 0))) (sgI (IntKind.i64.wrap (3600000 - 0)))))
 (mh (kl 0 0) (kh 0 0) (sl 0 0) (sh 0 0) - ml (ml (sl 0 0) (sh 0 0) (kl 0 0) (kh 0 0)) (mh (sl 0 0) (sh 0 0) (kl 0 0) (kh 0 0)) (kl (sgI (IntKind.i64.wrap (3600000 - 0))) (sgI (IntKind.i64.wrap (3600000 - 0)))) (kh (sgI (IntKind.i64.wrap (3600000 - 0))) (sgI (IntKind.i64.wrap (3600000 - 0))))))])) := by kernel_rfl
theorem vc_gcdistance (k : Nat) (sl sh kl kh : Int → Int → Int) (ml mh zl zh : Int → Int → Int → Int → Int) (K : Value → Prop) : callsX Tryz.prog (ΓGc k sl sh kl kh ml mh zl zh) (noAnn) 43 [ptr k, wid 0 0, wid 0 3600000] K = (
 True ∧
 True ∧
 PbA k k 0 0 ∧
 True ∧
 PbA k k 0 0 ∧
 PbO k k (kl 0 0) (kh 0 0) (kl 0 0) (kh 0 0) ∧
 True ∧
 HvOk (sgI (IntKind.i64.wrap (3600000 - 0))) (sgI (IntKind.i64.wrap (3600000 - 0))) ∧
 KpOk k k 0 ∧
 PbO k k (ml (kl 0 0) (kh 0 0) (kl 0 0) (kh 0 0)) (mh (kl 0 0) (kh 0 0) (kl 0 0) (kh 0 0)) (hvI (sgI (IntKind.i64.wrap (3600000 - 0)))) (hvI (sgI (IntKind.i64.wrap (3600000 - 0)))) ∧
 True ∧
 HvOk (IntKind.i64.wrap (0 - 0)) (IntKind.i64.wrap (0 - 0)) ∧
 KpOk k k 0 ∧
 PbO k k (hvI (IntKind.i64.wrap (0 - 0))) (hvI (IntKind.i64.wrap (0 - 0))) (ml (ml (kl 0 0) (kh 0 0) (kl 0 0) (kh 0 0)) (mh (kl 0 0) (kh 0 0) (kl 0 0) (kh 0 0)) (hvI (sgI (IntKind.i64.wrap (3600000 - 0)))) (hvI (sgI (IntKind.i64.wrap (3600000 - 0)))))
 (mh (ml (kl 0 0) (kh 0 0) (kl 0 0) (kh 0 0)) (mh (kl 0 0) (kh 0 0) (kl 0 0) (kh 0 0)) (hvI (sgI (IntKind.i64.wrap (3600000 - 0)))) (hvI (sgI (IntKind.i64.wrap (3600000 - 0))))) ∧
 AhOk (hvI (IntKind.i64.wrap (0 - 0)) + ml (ml (kl 0 0) (kh 0 0) (kl 0 0) (kh 0 0)) (mh (kl 0 0) (kh 0 0) (kl 0 0) (kh 0 0)) (hvI (sgI (IntKind.i64.wrap (3600000 - 0)))) (hvI (sgI (IntKind.i64.wrap (3600000 - 0)))))
 (hvI (IntKind.i64.wrap (0 - 0)) + mh (ml (kl 0 0) (kh 0 0) (kl 0 0) (kh 0 0)) (mh (kl 0 0) (kh 0 0) (kl 0 0) (kh 0 0)) (hvI (sgI (IntKind.i64.wrap (3600000 - 0)))) (hvI (sgI (IntKind.i64.wrap (3600000 - 0))))) ∧
 KpOk k k 0 ∧ K (Value.agg #[Value.int IntKind.i64 3600000, Value.int IntKind.i64 3600000])) := by kernel_rfl
theorem vc_trhav (a b : Int) (K : Value → Prop) : callsX Tryz.prog (ΓHv) (noAnn) 79 [wid a b] K = (
 True ∧
 bcase (!decide (ArcV a b)) (K (Value.tuple #[Value.agg #[Value.int IntKind.i64 0, Value.int IntKind.i64 0], Value.int IntKind.i64 1]))
 ((Q41 a ∧ Q41 b) ∧ (Q41 (a + 5400000) ∧ Q41 (b + 5400000) ∧ a + 5400000 ≤ b + 5400000) ∧ K (Value.tuple #[Value.agg #[Value.int IntKind.i64 ((IntKind.i64.wrap (1073741824 - encH (a + 5400000) (b + 5400000))).fdiv (2 ^ 1)), Value.int IntKind.i64 ((IntKind.i64.wrap (IntKind.i64.wrap (1073741824 - encL (a + 5400000) (b + 5400000)) + 1)).fdiv (2 ^ 1))], Value.int IntKind.i64 0]))) := by kernel_rfl
theorem vc_atahav (a b : Int) (K : Value → Prop) : callsX Tryz.prog (ΓAh) (noAnn) 51 [wid a b] K = (
 True ∧
 bcase (!decide (FixV a b)) (K (Value.tuple #[Value.agg #[Value.int IntKind.i64 0, Value.int IntKind.i64 0], Value.int IntKind.i64 1]))
 (True ∧
 bcase (!decide (max a 0 ≤ min b 1073741824)) (K (Value.tuple #[Value.agg #[Value.int IntKind.i64 0, Value.int IntKind.i64 0], Value.int IntKind.i64 2]))
 (AsOk (IntKind.i64.wrap (1073741824 - IntKind.i64.wrap (2 * min b 1073741824))) (IntKind.i64.wrap (1073741824 - IntKind.i64.wrap (2 * max a 0))) ∧
 K (Value.tuple #[Value.agg #[Value.int IntKind.i64 (IntKind.i64.wrap (5400000 - asH (IntKind.i64.wrap (1073741824 - IntKind.i64.wrap (2 * max a 0))))), Value.int IntKind.i64 (IntKind.i64.wrap (5400000 - asL (IntKind.i64.wrap (1073741824 - IntKind.i64.wrap (2 * min b 1073741824)))))], Value.int IntKind.i64 0])))) := by kernel_rfl
end Go.Proofs.YtjdcicjhpegphaaGreat
