/- What the reference's texts of angles, and the law of texts, ask. -/
import Derived.Test.YtkcelhhhbbpbpaaDoorTxS
namespace Go.Proofs.YtkcelhhhbbpbpaaDoor
open Go Go.Abs Go.RowKit
set_option linter.unusedVariables false
set_option linter.unusedSimpArgs false
theorem vc_r5digits (n k : Int) (K : Value → Prop) : callsX Tryd.prog ([]) (ADig n k) 32 [num n, num k] K = (
 ∃ (s : Nat × List UInt8),
 (n = (↑s.fst : Int) ∧ k = k - (↑s.snd.length : Int) ∧ ByteArray.mk #[] = ByteArray.mk s.snd.toArray ∧ True) ∧
 ((↑s.fst : Int) ≤ n ∧ digL s.fst (k - (↑s.snd.length : Int)).toNat ++ s.snd = digL n.toNat k.toNat) ∧
 ∀ (s : Nat × List UInt8),
 (↑s.fst : Int) ≤ n ∧ digL s.fst (k - (↑s.snd.length : Int)).toNat ++ s.snd = digL n.toNat k.toNat →
 bcase (decide ((↑s.fst : Int) > 0))
 (bcase (tooLong (strV [IntKind.u8.wrap (IntKind.i64.wrap (48 + (↑s.fst : Int).tmod 10))]) (ByteArray.mk s.snd.toArray)) False
 (∃ (s_1 : Nat × List UInt8),
 (IntKind.i64.wrap ((↑s.fst : Int).tdiv 10) = (↑s_1.fst : Int) ∧ IntKind.i64.wrap (k - (↑s.snd.length : Int) - 1) = k - (↑s_1.snd.length : Int) ∧ strV [IntKind.u8.wrap (IntKind.i64.wrap (48 + (↑s.fst : Int).tmod 10))] ++ ByteArray.mk s.snd.toArray = ByteArray.mk s_1.snd.toArray ∧ True) ∧
 ((↑s_1.fst : Int) ≤ n ∧ digL s_1.fst (k - (↑s_1.snd.length : Int)).toNat ++ s_1.snd = digL n.toNat k.toNat) ∧ s_1.fst + (k - (↑s_1.snd.length : Int)).toNat < s.fst + (k - (↑s.snd.length : Int)).toNat))
 (bcase (decide (k - (↑s.snd.length : Int) > 0))
 (bcase (tooLong (strV [IntKind.u8.wrap (IntKind.i64.wrap (48 + (↑s.fst : Int).tmod 10))]) (ByteArray.mk s.snd.toArray)) False
 (∃ (s_1 : Nat × List UInt8),
 (IntKind.i64.wrap ((↑s.fst : Int).tdiv 10) = (↑s_1.fst : Int) ∧ IntKind.i64.wrap (k - (↑s.snd.length : Int) - 1) = k - (↑s_1.snd.length : Int) ∧ strV [IntKind.u8.wrap (IntKind.i64.wrap (48 + (↑s.fst : Int).tmod 10))] ++ ByteArray.mk s.snd.toArray = ByteArray.mk s_1.snd.toArray ∧ True) ∧
 ((↑s_1.fst : Int) ≤ n ∧ digL s_1.fst (k - (↑s_1.snd.length : Int)).toNat ++ s_1.snd = digL n.toNat k.toNat) ∧ s_1.fst + (k - (↑s_1.snd.length : Int)).toNat < s.fst + (k - (↑s.snd.length : Int)).toNat))
 (K (Value.string (ByteArray.mk s.snd.toArray))))) := by kernel_rfl
theorem vc_r5text (n : Int) (K : Value → Prop) : callsX Tryd.prog (ΓTx) (noAnn) 19 [num n] K = (
 bcase (decide (n < 0))
 (DgOk (IntKind.i64.wrap ((IntKind.i64.wrap (0 - n)).tdiv 60000)) 1 ∧
 bcase (tooLong (ByteArray.mk #[45]) (digB (IntKind.i64.wrap ((IntKind.i64.wrap (0 - n)).tdiv 60000)) 1)) False
 (bcase (tooLong (ByteArray.mk #[45] ++ digB (IntKind.i64.wrap ((IntKind.i64.wrap (0 - n)).tdiv 60000)) 1) (ByteArray.mk #[45])) False
 (DgOk (IntKind.i64.wrap (((IntKind.i64.wrap (0 - n)).tmod 60000).tdiv 1000)) 2 ∧
 bcase (tooLong (ByteArray.mk #[45] ++ digB (IntKind.i64.wrap ((IntKind.i64.wrap (0 - n)).tdiv 60000)) 1 ++ ByteArray.mk #[45]) (digB (IntKind.i64.wrap (((IntKind.i64.wrap (0 - n)).tmod 60000).tdiv 1000)) 2)) False
 (bcase (tooLong (ByteArray.mk #[45] ++ digB (IntKind.i64.wrap ((IntKind.i64.wrap (0 - n)).tdiv 60000)) 1 ++ ByteArray.mk #[45] ++ digB (IntKind.i64.wrap (((IntKind.i64.wrap (0 - n)).tmod 60000).tdiv 1000)) 2) (ByteArray.mk #[46])) False
 (bcase (((IntKind.i64.wrap (0 - n)).tmod 1000).tmod 100 == 0)
 (DgOk (IntKind.i64.wrap (((IntKind.i64.wrap (0 - n)).tmod 1000).tdiv 100)) 1 ∧
 bcase (tooLong (ByteArray.mk #[45] ++ digB (IntKind.i64.wrap ((IntKind.i64.wrap (0 - n)).tdiv 60000)) 1 ++ ByteArray.mk #[45] ++ digB (IntKind.i64.wrap (((IntKind.i64.wrap (0 - n)).tmod 60000).tdiv 1000)) 2 ++ ByteArray.mk #[46]) (digB (IntKind.i64.wrap (((IntKind.i64.wrap (0 - n)).tmod 1000).tdiv 100)) 1)) False
 (K (Value.string (ByteArray.mk #[45] ++ digB (IntKind.i64.wrap ((IntKind.i64.wrap (0 - n)).tdiv 60000)) 1 ++ ByteArray.mk #[45] ++ digB (IntKind.i64.wrap (((IntKind.i64.wrap (0 - n)).tmod 60000).tdiv 1000)) 2 ++ ByteArray.mk #[46] ++ digB (IntKind.i64.wrap (((IntKind.i64.wrap (0 - n)).tmod 1000).tdiv 100)) 1))))
 (DgOk ((IntKind.i64.wrap (0 - n)).tmod 1000) 3 ∧
 bcase (tooLong (ByteArray.mk #[45] ++ digB (IntKind.i64.wrap ((IntKind.i64.wrap (0 - n)).tdiv 60000)) 1 ++ ByteArray.mk #[45] ++ digB (IntKind.i64.wrap (((IntKind.i64.wrap (0 - n)).tmod 60000).tdiv 1000)) 2 ++ ByteArray.mk #[46]) (digB ((IntKind.i64.wrap (0 - n)).tmod 1000) 3)) False
 (K (Value.string (ByteArray.mk #[45] ++ digB (IntKind.i64.wrap ((IntKind.i64.wrap (0 - n)).tdiv 60000)) 1 ++ ByteArray.mk #[45] ++ digB (IntKind.i64.wrap (((IntKind.i64.wrap (0 - n)).tmod 60000).tdiv 1000)) 2 ++ ByteArray.mk #[46] ++ digB ((IntKind.i64.wrap (0 - n)).tmod 1000) 3)))))))))
 (DgOk (IntKind.i64.wrap (n.tdiv 60000)) 1 ∧
 bcase (tooLong (ByteArray.mk #[]) (digB (IntKind.i64.wrap (n.tdiv 60000)) 1)) False
 (bcase (tooLong (ByteArray.mk #[] ++ digB (IntKind.i64.wrap (n.tdiv 60000)) 1) (ByteArray.mk #[45])) False
 (DgOk (IntKind.i64.wrap ((n.tmod 60000).tdiv 1000)) 2 ∧
 bcase (tooLong (ByteArray.mk #[] ++ digB (IntKind.i64.wrap (n.tdiv 60000)) 1 ++ ByteArray.mk #[45]) (digB (IntKind.i64.wrap ((n.tmod 60000).tdiv 1000)) 2)) False
 (bcase (tooLong (ByteArray.mk #[] ++ digB (IntKind.i64.wrap (n.tdiv 60000)) 1 ++ ByteArray.mk #[45] ++ digB (IntKind.i64.wrap ((n.tmod 60000).tdiv 1000)) 2) (ByteArray.mk #[46])) False
 (bcase ((n.tmod 1000).tmod 100 == 0)
 (DgOk (IntKind.i64.wrap ((n.tmod 1000).tdiv 100)) 1 ∧
 bcase (tooLong (ByteArray.mk #[] ++ digB (IntKind.i64.wrap (n.tdiv 60000)) 1 ++ ByteArray.mk #[45] ++ digB (IntKind.i64.wrap ((n.tmod 60000).tdiv 1000)) 2 ++ ByteArray.mk #[46]) (digB (IntKind.i64.wrap ((n.tmod 1000).tdiv 100)) 1)) False
 (K (Value.string (ByteArray.mk #[] ++ digB (IntKind.i64.wrap (n.tdiv 60000)) 1 ++ ByteArray.mk #[45] ++ digB (IntKind.i64.wrap ((n.tmod 60000).tdiv 1000)) 2 ++ ByteArray.mk #[46] ++ digB (IntKind.i64.wrap ((n.tmod 1000).tdiv 100)) 1))))
 (DgOk (n.tmod 1000) 3 ∧
 bcase (tooLong (ByteArray.mk #[] ++ digB (IntKind.i64.wrap (n.tdiv 60000)) 1 ++ ByteArray.mk #[45] ++ digB (IntKind.i64.wrap ((n.tmod 60000).tdiv 1000)) 2 ++ ByteArray.mk #[46]) (digB (n.tmod 1000) 3)) False
 (K (Value.string (ByteArray.mk #[] ++ digB (IntKind.i64.wrap (n.tdiv 60000)) 1 ++ ByteArray.mk #[45] ++ digB (IntKind.i64.wrap ((n.tmod 60000).tdiv 1000)) 2 ++ ByteArray.mk #[46] ++ digB (n.tmod 1000) 3)))))))))) := by kernel_rfl
end Go.Proofs.YtkcelhhhbbpbpaaDoor
