/- What the functions of dip and of its reference ask. -/
import Derived.Test.YtfcdcegamcjaiaaDoorSpecE
namespace Go.Proofs.YtfcdcegamcjaiaaDoor
open Go Go.Abs Go.RowKit
set_option linter.unusedVariables false
set_option linter.unusedSimpArgs false
theorem vc_fits (n : Int) (K : Value → Prop) : callsX Tryd.prog ([]) (noAnn) 34 [num n] K = (
 bcase (decide (n ≥ -1099511627776)) (K (Value.bool (decide (n ≤ 1099511627776)))) (K (Value.bool false))) := by kernel_rfl
theorem vc_valid (a b : Int) (K : Value → Prop) : callsX Tryd.prog (ΓF) (noAnn) 32 [arc a b] K = (
 bcase (decide (a ≤ b)) (True ∧ bcase (decide (Fit a)) (True ∧ K (Value.bool (decide (Fit b)))) (K (Value.bool false))) (K (Value.bool false))) := by kernel_rfl
theorem vc_floor (n d : Int) (K : Value → Prop) : callsX Tryd.prog ([]) (noAnn) 33 [num n, num d] K = (
 bcase (d == 0) False (bcase (d == 0) False (bcase (decide (n.tmod d < 0)) (K (Value.int IntKind.i64 (IntKind.i64.wrap (IntKind.i64.wrap (n.tdiv d) - 1)))) (K (Value.int IntKind.i64 (IntKind.i64.wrap (n.tdiv d))))))) := by kernel_rfl
theorem vc_dfloor (n d : Int) (K : Value → Prop) : callsX Tryd.prog ([]) (noAnn) 38 [num n, num d] K = (
 bcase (d == 0) False (bcase (d == 0) False (bcase (decide (n.tmod d < 0)) (K (Value.int IntKind.i64 (IntKind.i64.wrap (IntKind.i64.wrap (n.tdiv d) - 1)))) (K (Value.int IntKind.i64 (IntKind.i64.wrap (n.tdiv d))))))) := by kernel_rfl
theorem vc_r5floor (n d : Int) (K : Value → Prop) : callsX Tryd.prog ([]) (noAnn) 28 [num n, num d] K = (
 bcase (d == 0) False (bcase (d == 0) False (bcase (decide (n.tmod d < 0)) (K (Value.int IntKind.i64 (IntKind.i64.wrap (IntKind.i64.wrap (n.tdiv d) - 1)))) (K (Value.int IntKind.i64 (IntKind.i64.wrap (n.tdiv d))))))) := by kernel_rfl
theorem vc_r5ceil (n d : Int) (K : Value → Prop) : callsX Tryd.prog ([]) (noAnn) 29 [num n, num d] K = (
 bcase (d == 0) False (bcase (d == 0) False (bcase (decide (n.tmod d > 0)) (K (Value.int IntKind.i64 (IntKind.i64.wrap (IntKind.i64.wrap (n.tdiv d) + 1)))) (K (Value.int IntKind.i64 (IntKind.i64.wrap (n.tdiv d))))))) := by kernel_rfl
theorem vc_r5add (a b c d : Int) (K : Value → Prop) : callsX Tryd.prog ([]) (noAnn) 37 [arc a b, arc c d] K = (
 K (Value.agg #[Value.int IntKind.i64 (IntKind.i64.wrap (a + c)), Value.int IntKind.i64 (IntKind.i64.wrap (b + d))])) := by kernel_rfl
theorem vc_r5round (n : Int) (K : Value → Prop) : callsX Tryd.prog ([(28, .v sFloor)]) (noAnn) 40 [num n] K = (
 (I64 (IntKind.i64.wrap (n + 50)) ∧ Den 100) ∧ K (Value.int IntKind.i64 (IntKind.i64.wrap (100 * (IntKind.i64.wrap (n + 50) / 100))))) := by kernel_rfl
theorem vc_r5digits (n k : Int) (K : Value → Prop) : callsX Tryd.prog ([]) (ADig n k) 47 [num n, num k] K = (
 ∃ (s : Nat × List UInt8),
 (n = (↑s.fst : Int) ∧ k = k - (↑s.snd.length : Int) ∧ ByteArray.mk #[] = ByteArray.mk s.snd.toArray ∧ True) ∧
 ((↑s.fst : Int) ≤ n ∧ digL s.fst (k - (↑s.snd.length : Int)).toNat ++ s.snd = digL n.toNat k.toNat) ∧
 ∀ (s : Nat × List UInt8),
 (↑s.fst : Int) ≤ n ∧ digL s.fst (k - (↑s.snd.length : Int)).toNat ++ s.snd = digL n.toNat k.toNat →
 bcase (decide ((↑s.fst : Int) > 0))
 (bcase (tooLong (ByteArray.empty.push (UInt8.ofNat (IntKind.u8.wrap (IntKind.i64.wrap (48 + (↑s.fst : Int).tmod 10))).toNat)) (ByteArray.mk s.snd.toArray)) False
 (∃ (s_1 : Nat × List UInt8),
 (IntKind.i64.wrap ((↑s.fst : Int).tdiv 10) = (↑s_1.fst : Int) ∧ IntKind.i64.wrap (k - (↑s.snd.length : Int) - 1) = k - (↑s_1.snd.length : Int) ∧ ByteArray.empty.push (UInt8.ofNat (IntKind.u8.wrap (IntKind.i64.wrap (48 + (↑s.fst : Int).tmod 10))).toNat) ++ ByteArray.mk s.snd.toArray = ByteArray.mk s_1.snd.toArray ∧ True) ∧
 ((↑s_1.fst : Int) ≤ n ∧ digL s_1.fst (k - (↑s_1.snd.length : Int)).toNat ++ s_1.snd = digL n.toNat k.toNat) ∧ s_1.fst + (k - (↑s_1.snd.length : Int)).toNat < s.fst + (k - (↑s.snd.length : Int)).toNat))
 (bcase (decide (k - (↑s.snd.length : Int) > 0))
 (bcase (tooLong (ByteArray.empty.push (UInt8.ofNat (IntKind.u8.wrap (IntKind.i64.wrap (48 + (↑s.fst : Int).tmod 10))).toNat)) (ByteArray.mk s.snd.toArray)) False
 (∃ (s_1 : Nat × List UInt8),
 (IntKind.i64.wrap ((↑s.fst : Int).tdiv 10) = (↑s_1.fst : Int) ∧ IntKind.i64.wrap (k - (↑s.snd.length : Int) - 1) = k - (↑s_1.snd.length : Int) ∧ ByteArray.empty.push (UInt8.ofNat (IntKind.u8.wrap (IntKind.i64.wrap (48 + (↑s.fst : Int).tmod 10))).toNat) ++ ByteArray.mk s.snd.toArray = ByteArray.mk s_1.snd.toArray ∧ True) ∧
 ((↑s_1.fst : Int) ≤ n ∧ digL s_1.fst (k - (↑s_1.snd.length : Int)).toNat ++ s_1.snd = digL n.toNat k.toNat) ∧ s_1.fst + (k - (↑s_1.snd.length : Int)).toNat < s.fst + (k - (↑s.snd.length : Int)).toNat))
 (K (Value.string (ByteArray.mk s.snd.toArray))))) := by kernel_rfl
theorem vc_r5text (n : Int) (K : Value → Prop) : callsX Tryd.prog (ΓTx) (noAnn) 41 [num n] K = (
 bcase (decide (n < 0))
 (DgOk (IntKind.i64.wrap ((IntKind.i64.wrap (0 - n)).tdiv 60000)) 1 ∧
 bcase (tooLong (ByteArray.mk #[45]) (digB (IntKind.i64.wrap ((IntKind.i64.wrap (0 - n)).tdiv 60000)) 1)) False
 (bcase (tooLong (ByteArray.mk #[45] ++ digB (IntKind.i64.wrap ((IntKind.i64.wrap (0 - n)).tdiv 60000)) 1) (ByteArray.mk #[45])) False
 (DgOk (IntKind.i64.wrap (((IntKind.i64.wrap (0 - n)).tmod 60000).tdiv 1000)) 2 ∧
 bcase (tooLong (ByteArray.mk #[45] ++ digB (IntKind.i64.wrap ((IntKind.i64.wrap (0 - n)).tdiv 60000)) 1 ++ ByteArray.mk #[45]) (digB (IntKind.i64.wrap (((IntKind.i64.wrap (0 - n)).tmod 60000).tdiv 1000)) 2)) False
 (bcase (tooLong (ByteArray.mk #[45] ++ digB (IntKind.i64.wrap ((IntKind.i64.wrap (0 - n)).tdiv 60000)) 1 ++ ByteArray.mk #[45] ++ digB (IntKind.i64.wrap (((IntKind.i64.wrap (0 - n)).tmod 60000).tdiv 1000)) 2) (ByteArray.mk #[46])) False
 (bcase (((IntKind.i64.wrap (0 - n)).tmod 1000).tmod 100 == 0)
 (DgOk (IntKind.i64.wrap (((IntKind.i64.wrap (0 - n)).tmod 1000).tdiv 100)) 1 ∧
 bcase (tooLong (ByteArray.mk #[45] ++ digB (IntKind.i64.wrap ((IntKind.i64.wrap (0 - n)).tdiv 60000)) 1 ++ ByteArray.mk #[45] ++ digB (IntKind.i64.wrap (((IntKind.i64.wrap (0 - n)).tmod 60000).tdiv 1000)) 2 ++ ByteArray.mk #[46]) (digB (IntKind.i64.wrap (((IntKind.i64.wrap (0 - n)).tmod 1000).tdiv 100)) 1)) False
 (K (Value.string (ByteArray.mk #[45] ++ digB (IntKind.i64.wrap ((IntKind.i64.wrap (0 - n)).tdiv 60000)) 1 ++ ByteArray.mk #[45] ++ digB (IntKind.i64.wrap (((IntKind.i64.wrap (0 - n)).tmod 60000).tdiv 1000)) 2 ++ ByteArray.mk #[46] ++ digB (IntKind.i64.wrap (((IntKind.i64.wrap (0 - n)).tmod 1000).tdiv 100)) 1))))
 (DgOk ((IntKind.i64.wrap (0 - n)).tmod 1000) 3 ∧
 bcase (tooLong (ByteArray.mk #[45] ++ digB (IntKind.i64.wrap ((IntKind.i64.wrap (0 - n)).tdiv 60000)) 1 ++ ByteArray.mk #[45] ++ digB (IntKind.i64.wrap (((IntKind.i64.wrap (0 - n)).tmod 60000).tdiv 1000)) 2 ++ ByteArray.mk #[46]) (digB ((IntKind.i64.wrap (0 - n)).tmod 1000) 3)) False
 (K (Value.string (ByteArray.mk #[45] ++ digB (IntKind.i64.wrap ((IntKind.i64.wrap (0 - n)).tdiv 60000)) 1 ++ ByteArray.mk #[45] ++ digB (IntKind.i64.wrap (((IntKind.i64.wrap (0 - n)).tmod 60000).tdiv 1000)) 2 ++ ByteArray.mk #[46] ++ digB ((IntKind.i64.wrap (0 - n)).tmod 1000) 3)))))))))
 (DgOk (IntKind.i64.wrap (n.tdiv 60000)) 1 ∧
 bcase (tooLong (ByteArray.mk #[]) (digB (IntKind.i64.wrap (n.tdiv 60000)) 1)) False
 (bcase (tooLong (ByteArray.mk #[] ++ digB (IntKind.i64.wrap (n.tdiv 60000)) 1) (ByteArray.mk #[45])) False
 (DgOk (IntKind.i64.wrap ((n.tmod 60000).tdiv 1000)) 2 ∧
 bcase (tooLong (ByteArray.mk #[] ++ digB (IntKind.i64.wrap (n.tdiv 60000)) 1 ++ ByteArray.mk #[45]) (digB (IntKind.i64.wrap ((n.tmod 60000).tdiv 1000)) 2)) False
 (bcase (tooLong (ByteArray.mk #[] ++ digB (IntKind.i64.wrap (n.tdiv 60000)) 1 ++ ByteArray.mk #[45] ++ digB (IntKind.i64.wrap ((n.tmod 60000).tdiv 1000)) 2) (ByteArray.mk #[46])) False
 (bcase ((n.tmod 1000).tmod 100 == 0)
 (DgOk (IntKind.i64.wrap ((n.tmod 1000).tdiv 100)) 1 ∧
 bcase (tooLong (ByteArray.mk #[] ++ digB (IntKind.i64.wrap (n.tdiv 60000)) 1 ++ ByteArray.mk #[45] ++ digB (IntKind.i64.wrap ((n.tmod 60000).tdiv 1000)) 2 ++ ByteArray.mk #[46]) (digB (IntKind.i64.wrap ((n.tmod 1000).tdiv 100)) 1)) False
 (K (Value.string (ByteArray.mk #[] ++ digB (IntKind.i64.wrap (n.tdiv 60000)) 1 ++ ByteArray.mk #[45] ++ digB (IntKind.i64.wrap ((n.tmod 60000).tdiv 1000)) 2 ++ ByteArray.mk #[46] ++ digB (IntKind.i64.wrap ((n.tmod 1000).tdiv 100)) 1))))
 (DgOk (n.tmod 1000) 3 ∧
 bcase (tooLong (ByteArray.mk #[] ++ digB (IntKind.i64.wrap (n.tdiv 60000)) 1 ++ ByteArray.mk #[45] ++ digB (IntKind.i64.wrap ((n.tmod 60000).tdiv 1000)) 2 ++ ByteArray.mk #[46]) (digB (n.tmod 1000) 3)) False
 (K (Value.string (ByteArray.mk #[] ++ digB (IntKind.i64.wrap (n.tdiv 60000)) 1 ++ ByteArray.mk #[45] ++ digB (IntKind.i64.wrap ((n.tmod 60000).tdiv 1000)) 2 ++ ByteArray.mk #[46] ++ digB (n.tmod 1000) 3)))))))))) := by kernel_rfl
theorem vc_r5print (a b : Int) (K : Value → Prop) : callsX Tryd.prog (ΓP5) (noAnn) 30 [arc a b] K = (
 (-2199023255552 ≤ a ∧ a ≤ 2199023255552) ∧
 (-2199023255552 ≤ b ∧ b ≤ 2199023255552) ∧
 bcase (decide (rnd a < -1099511627776)) (K (Value.tuple #[Value.string (ByteArray.mk #[]), Value.int IntKind.i64 5]))
 (bcase (decide (rnd b > 1099511627776)) (K (Value.tuple #[Value.string (ByteArray.mk #[]), Value.int IntKind.i64 5]))
 (bcase (rnd a == rnd b) (Fit (rnd a) ∧ K (Value.tuple #[Value.string (textB (rnd a)), Value.int IntKind.i64 0]))
 (Fit (rnd a) ∧ bcase (tooLong (textB (rnd a)) (ByteArray.mk #[32, 46, 46, 32])) False (Fit (rnd b) ∧ bcase (tooLong (textB (rnd a) ++ ByteArray.mk #[32, 46, 46, 32]) (textB (rnd b))) False (K (Value.tuple #[Value.string (textB (rnd a) ++ ByteArray.mk #[32, 46, 46, 32] ++ textB (rnd b)), Value.int IntKind.i64 0]))))))) := by kernel_rfl
theorem vc_print (a b : Int) (K : Value → Prop) : callsX Tryd.prog (ΓPr) (noAnn) 17 [arc a b] K = (
 True ∧
 bcase (!decide (Val a b)) (K (Value.tuple #[Value.string (ByteArray.mk #[]), Value.int IntKind.i64 1]))
 ((I64 (IntKind.i64.wrap (a + 50)) ∧ Den 100) ∧
 (I64 (IntKind.i64.wrap (b + 50)) ∧ Den 100) ∧
 True ∧
 bcase (!decide (Fit (IntKind.i64.wrap (IntKind.i64.wrap (a + 50) / 100 * 100)))) (K (Value.tuple #[Value.string (ByteArray.mk #[]), Value.int IntKind.i64 5]))
 (True ∧
 bcase (!decide (Fit (IntKind.i64.wrap (IntKind.i64.wrap (b + 50) / 100 * 100)))) (K (Value.tuple #[Value.string (ByteArray.mk #[]), Value.int IntKind.i64 5]))
 (bcase (IntKind.i64.wrap (IntKind.i64.wrap (a + 50) / 100 * 100) == IntKind.i64.wrap (IntKind.i64.wrap (b + 50) / 100 * 100)) (Fit (IntKind.i64.wrap (IntKind.i64.wrap (a + 50) / 100 * 100)) ∧ K (Value.tuple #[Value.string (textB (IntKind.i64.wrap (IntKind.i64.wrap (a + 50) / 100 * 100))), Value.int IntKind.i64 0]))
 (Fit (IntKind.i64.wrap (IntKind.i64.wrap (a + 50) / 100 * 100)) ∧
 bcase (tooLong (textB (IntKind.i64.wrap (IntKind.i64.wrap (a + 50) / 100 * 100))) (ByteArray.mk #[32, 46, 46, 32])) False
 (Fit (IntKind.i64.wrap (IntKind.i64.wrap (b + 50) / 100 * 100)) ∧
 bcase (tooLong (textB (IntKind.i64.wrap (IntKind.i64.wrap (a + 50) / 100 * 100)) ++ ByteArray.mk #[32, 46, 46, 32]) (textB (IntKind.i64.wrap (IntKind.i64.wrap (b + 50) / 100 * 100)))) False
 (K (Value.tuple #[Value.string (textB (IntKind.i64.wrap (IntKind.i64.wrap (a + 50) / 100 * 100)) ++ ByteArray.mk #[32, 46, 46, 32] ++ textB (IntKind.i64.wrap (IntKind.i64.wrap (b + 50) / 100 * 100))), Value.int IntKind.i64 0])))))))) := by kernel_rfl
theorem vc_dec (n : Int) (k : Nat) (K : Value → Prop) : callsX Tryd.prog (ΓDc k) (noAnn) 31 [num n] K = (
 bcase (decide (n < 0))
 (bcase (decide (n > -10)) (bcase (tooLong (ByteArray.mk #[45]) (Utf8.encode (IntKind.i32.wrap (IntKind.i64.wrap (48 - n))))) False (K (Value.string (ByteArray.mk #[45] ++ Utf8.encode (IntKind.i32.wrap (IntKind.i64.wrap (48 - n)))))))
 (DecOk k (IntKind.i64.wrap (n.tdiv 10)) ∧ bcase (tooLong (itoaB (IntKind.i64.wrap (n.tdiv 10))) (Utf8.encode (IntKind.i32.wrap (IntKind.i64.wrap (48 - n.tmod 10))))) False (K (Value.string (itoaB (IntKind.i64.wrap (n.tdiv 10)) ++ Utf8.encode (IntKind.i32.wrap (IntKind.i64.wrap (48 - n.tmod 10))))))))
 (bcase (decide (n ≥ 10)) (DecOk k (IntKind.i64.wrap (n.tdiv 10)) ∧ bcase (tooLong (itoaB (IntKind.i64.wrap (n.tdiv 10))) (Utf8.encode (IntKind.i32.wrap (IntKind.i64.wrap (48 + n.tmod 10))))) False (K (Value.string (itoaB (IntKind.i64.wrap (n.tdiv 10)) ++ Utf8.encode (IntKind.i32.wrap (IntKind.i64.wrap (48 + n.tmod 10)))))))
 (K (Value.string (Utf8.encode (IntKind.i32.wrap (IntKind.i64.wrap (48 + n.tmod 10)))))))) := by kernel_rfl
theorem vc_droot (f n : Int) (K : Value → Prop) : callsX Tryd.prog ([]) (ARootD (f * f * n)) 24 [num f, num n] K = (
 ∃ (s : Int × Int),
 (f = f ∧ n = n ∧ IntKind.i64.wrap (IntKind.i64.wrap (f * f) * n) = IntKind.i64.wrap (IntKind.i64.wrap (f * f) * n) ∧ 0 = s.fst ∧ 2097152 = s.snd ∧ Int.ofNat 0 = 0 ∧ Int.ofNat 0 = 0 ∧ True) ∧
 (0 ≤ s.fst ∧ s.fst < s.snd ∧ s.snd ≤ 2097152 ∧ s.fst * s.fst ≤ f * f * n ∧ f * f * n < s.snd * s.snd) ∧
 ∀ (s : Int × Int),
 0 ≤ s.fst ∧ s.fst < s.snd ∧ s.snd ≤ 2097152 ∧ s.fst * s.fst ≤ f * f * n ∧ f * f * n < s.snd * s.snd →
 bcase (decide (IntKind.i64.wrap (s.snd - s.fst) > 1))
 (bcase (decide (IntKind.i64.wrap (IntKind.i64.wrap ((IntKind.i64.wrap (s.fst + s.snd)).tdiv 2) * IntKind.i64.wrap ((IntKind.i64.wrap (s.fst + s.snd)).tdiv 2)) ≤ IntKind.i64.wrap (IntKind.i64.wrap (f * f) * n)))
 (∃ (s_1 : Int × Int),
 (f = f ∧ n = n ∧ IntKind.i64.wrap (IntKind.i64.wrap (f * f) * n) = IntKind.i64.wrap (IntKind.i64.wrap (f * f) * n) ∧ IntKind.i64.wrap ((IntKind.i64.wrap (s.fst + s.snd)).tdiv 2) = s_1.fst ∧ s.snd = s_1.snd ∧ Int.ofNat 0 = 0 ∧ Int.ofNat 0 = 0 ∧ True) ∧
 (0 ≤ s_1.fst ∧ s_1.fst < s_1.snd ∧ s_1.snd ≤ 2097152 ∧ s_1.fst * s_1.fst ≤ f * f * n ∧ f * f * n < s_1.snd * s_1.snd) ∧ (s_1.snd - s_1.fst).toNat < (s.snd - s.fst).toNat)
 (∃ (s_1 : Int × Int),
 (f = f ∧ n = n ∧ IntKind.i64.wrap (IntKind.i64.wrap (f * f) * n) = IntKind.i64.wrap (IntKind.i64.wrap (f * f) * n) ∧ s.fst = s_1.fst ∧ IntKind.i64.wrap ((IntKind.i64.wrap (s.fst + s.snd)).tdiv 2) = s_1.snd ∧ Int.ofNat 0 = 0 ∧ Int.ofNat 0 = 0 ∧ True) ∧
 (0 ≤ s_1.fst ∧ s_1.fst < s_1.snd ∧ s_1.snd ≤ 2097152 ∧ s_1.fst * s_1.fst ≤ f * f * n ∧ f * f * n < s_1.snd * s_1.snd) ∧ (s_1.snd - s_1.fst).toNat < (s.snd - s.fst).toNat))
 (bcase (decide (IntKind.i64.wrap (s.fst * s.fst) < IntKind.i64.wrap (IntKind.i64.wrap (f * f) * n))) (K (Value.agg #[Value.int IntKind.i64 s.fst, Value.int IntKind.i64 (IntKind.i64.wrap (s.fst + 1))])) (K (Value.agg #[Value.int IntKind.i64 s.fst, Value.int IntKind.i64 s.fst])))) := by kernel_rfl
theorem vc_isq (n : Int) (K : Value → Prop) : callsX Tryd.prog ([]) (AIsq n) 39 [num n] K = (
 ∃ (s : Int × Nat),
 (n = n ∧ 0 = s.fst ∧ 1073741824 = bitP s.snd ∧ True) ∧
 (s.snd ≤ 31 ∧ 0 ≤ s.fst ∧ s.fst + 2 ^ s.snd ≤ 2 ^ 31 ∧ rootI s.snd n s.fst = rootI 31 n 0) ∧
 ∀ (s : Int × Nat),
 s.snd ≤ 31 ∧ 0 ≤ s.fst ∧ s.fst + 2 ^ s.snd ≤ 2 ^ 31 ∧ rootI s.snd n s.fst = rootI 31 n 0 →
 bcase (decide (bitP s.snd > 0))
 (bcase (decide (IntKind.i64.wrap (IntKind.i64.wrap (s.fst + bitP s.snd) * IntKind.i64.wrap (s.fst + bitP s.snd)) ≤ n)) (∃ (s_1 : Int × Nat), (n = n ∧ IntKind.i64.wrap (s.fst + bitP s.snd) = s_1.fst ∧ IntKind.i64.wrap ((bitP s.snd).tdiv 2) = bitP s_1.snd ∧ True) ∧ (s_1.snd ≤ 31 ∧ 0 ≤ s_1.fst ∧ s_1.fst + 2 ^ s_1.snd ≤ 2 ^ 31 ∧ rootI s_1.snd n s_1.fst = rootI 31 n 0) ∧ s_1.snd < s.snd)
 (∃ (s_1 : Int × Nat), (n = n ∧ s.fst = s_1.fst ∧ IntKind.i64.wrap ((bitP s.snd).tdiv 2) = bitP s_1.snd ∧ True) ∧ (s_1.snd ≤ 31 ∧ 0 ≤ s_1.fst ∧ s_1.fst + 2 ^ s_1.snd ≤ 2 ^ 31 ∧ rootI s_1.snd n s_1.fst = rootI 31 n 0) ∧ s_1.snd < s.snd))
 (K (Value.int IntKind.i64 s.fst))) := by kernel_rfl
theorem vc_dquot (n d : Int) (K : Value → Prop) : callsX Tryd.prog (ΓQt) (noAnn) 25 [num n, num d] K = (
 (I64 n ∧ Den d) ∧ (I64 (IntKind.i64.wrap (0 - n)) ∧ Den d) ∧ K (Value.agg #[Value.int IntKind.i64 (n / d), Value.int IntKind.i64 (IntKind.i64.wrap (0 - IntKind.i64.wrap (0 - n) / d))])) := by kernel_rfl
theorem vc_enclosed (n m : Int) (K : Value → Prop) : callsX Tryd.prog (ΓEn) (noAnn) 27 [num n, num m] K = (
 (0 ≤ IntKind.i64.wrap (IntKind.i64.wrap (n * n) * m) ∧ IntKind.i64.wrap (IntKind.i64.wrap (n * n) * m) ≤ 1152921504606846976) ∧
 bcase (IntKind.i64.wrap (sqI (IntKind.i64.wrap (IntKind.i64.wrap (n * n) * m)) * sqI (IntKind.i64.wrap (IntKind.i64.wrap (n * n) * m))) == IntKind.i64.wrap (IntKind.i64.wrap (n * n) * m)) (K (Value.agg #[Value.int IntKind.i64 (sqI (IntKind.i64.wrap (IntKind.i64.wrap (n * n) * m))), Value.int IntKind.i64 (sqI (IntKind.i64.wrap (IntKind.i64.wrap (n * n) * m)))]))
 (K (Value.agg #[Value.int IntKind.i64 (sqI (IntKind.i64.wrap (IntKind.i64.wrap (n * n) * m))), Value.int IntKind.i64 (IntKind.i64.wrap (sqI (IntKind.i64.wrap (IntKind.i64.wrap (n * n) * m)) + 1))]))) := by kernel_rfl
theorem vc_eye (n : Int) (K : Value → Prop) : callsX Tryd.prog ([]) (noAnn) 26 [num n] K = (
 bcase (decide (n ≥ 0)) (K (Value.bool (decide (n ≤ 10000)))) (K (Value.bool false))) := by kernel_rfl
theorem vc_ddip (n : Int) (K : Value → Prop) : callsX Tryd.prog (ΓDp) (noAnn) 10 [num n] K = (
 bcase (decide (n ≥ 0)) (bcase (!decide (n ≤ 10000)) (K (Value.tuple #[Value.agg #[Value.int IntKind.i64 0, Value.int IntKind.i64 0], Value.int IntKind.i64 2])) (Rt 176 n ∧ K (Value.tuple #[Value.agg #[Value.int IntKind.i64 (sqI (176 * 176 * n)), Value.int IntKind.i64 (rUp (176 * 176 * n))], Value.int IntKind.i64 0])))
 (K (Value.tuple #[Value.agg #[Value.int IntKind.i64 0, Value.int IntKind.i64 0], Value.int IntKind.i64 2]))) := by kernel_rfl
theorem vc_dshort (e d : Int) (K : Value → Prop) : callsX Tryd.prog (ΓDp) (noAnn) 11 [num e, num d] K = (
 bcase (decide (e ≥ 0))
 (bcase (!decide (e ≤ 10000)) (K (Value.tuple #[Value.agg #[Value.int IntKind.i64 0, Value.int IntKind.i64 0], Value.int IntKind.i64 2]))
 (bcase (decide (d ≥ 1))
 (bcase (!decide (d ≤ 100000)) (K (Value.tuple #[Value.agg #[Value.int IntKind.i64 0, Value.int IntKind.i64 0], Value.int IntKind.i64 2]))
 ((I64 (IntKind.i64.wrap (IntKind.i64.wrap (IntKind.i64.wrap (131953 * d) * d) + IntKind.i64.wrap (5893750000 * e))) ∧
 I64 (-IntKind.i64.wrap (IntKind.i64.wrap (IntKind.i64.wrap (131953 * d) * d) + IntKind.i64.wrap (5893750000 * e))) ∧ Den (IntKind.i64.wrap (317500 * d)) ∧ I64 (-(-IntKind.i64.wrap (IntKind.i64.wrap (IntKind.i64.wrap (131953 * d) * d) + IntKind.i64.wrap (5893750000 * e)) / IntKind.i64.wrap (317500 * d)))) ∧
 K (Value.tuple #[Value.agg #[Value.int IntKind.i64 (IntKind.i64.wrap (IntKind.i64.wrap (IntKind.i64.wrap (131953 * d) * d) + IntKind.i64.wrap (5893750000 * e)) / IntKind.i64.wrap (317500 * d)), Value.int IntKind.i64 (-(-IntKind.i64.wrap (IntKind.i64.wrap (IntKind.i64.wrap (131953 * d) * d) + IntKind.i64.wrap (5893750000 * e)) / IntKind.i64.wrap (317500 * d)))], Value.int IntKind.i64 0])))
 (K (Value.tuple #[Value.agg #[Value.int IntKind.i64 0, Value.int IntKind.i64 0], Value.int IntKind.i64 2]))))
 (K (Value.tuple #[Value.agg #[Value.int IntKind.i64 0, Value.int IntKind.i64 0], Value.int IntKind.i64 2]))) := by kernel_rfl
theorem vc_dhorizon (n : Int) (K : Value → Prop) : callsX Tryd.prog (ΓDp) (noAnn) 19 [num n] K = (
 bcase (decide (n ≥ 0)) (bcase (!decide (n ≤ 1000000)) (K (Value.tuple #[Value.agg #[Value.int IntKind.i64 0, Value.int IntKind.i64 0], Value.int IntKind.i64 2])) (Rt 208 n ∧ K (Value.tuple #[Value.agg #[Value.int IntKind.i64 (sqI (208 * 208 * n)), Value.int IntKind.i64 (rUp (208 * 208 * n))], Value.int IntKind.i64 0])))
 (K (Value.tuple #[Value.agg #[Value.int IntKind.i64 0, Value.int IntKind.i64 0], Value.int IntKind.i64 2]))) := by kernel_rfl
theorem vc_dvisible (e h : Int) (K : Value → Prop) : callsX Tryd.prog (ΓDp) (noAnn) 20 [num e, num h] K = (
 bcase (decide (e ≥ 0))
 (bcase (!decide (e ≤ 10000)) (K (Value.tuple #[Value.agg #[Value.int IntKind.i64 0, Value.int IntKind.i64 0], Value.int IntKind.i64 2]))
 (bcase (decide (h ≥ 0))
 (bcase (!decide (h ≤ 1000000)) (K (Value.tuple #[Value.agg #[Value.int IntKind.i64 0, Value.int IntKind.i64 0], Value.int IntKind.i64 2])) (Rt 208 e ∧ Rt 208 h ∧ K (Value.tuple #[Value.agg #[Value.int IntKind.i64 (IntKind.i64.wrap (sqI (208 * 208 * e) + sqI (208 * 208 * h))), Value.int IntKind.i64 (IntKind.i64.wrap (rUp (208 * 208 * e) + rUp (208 * 208 * h)))], Value.int IntKind.i64 0])))
 (K (Value.tuple #[Value.agg #[Value.int IntKind.i64 0, Value.int IntKind.i64 0], Value.int IntKind.i64 2]))))
 (K (Value.tuple #[Value.agg #[Value.int IntKind.i64 0, Value.int IntKind.i64 0], Value.int IntKind.i64 2]))) := by kernel_rfl
theorem vc_r19dip (n : Int) (K : Value → Prop) : callsX Tryd.prog (ΓD5) (noAnn) 12 [num n] K = (
 True ∧ bcase (!decide (Eye n)) (K (Value.tuple #[Value.agg #[Value.int IntKind.i64 0, Value.int IntKind.i64 0], Value.int IntKind.i64 2])) (Rt 176 n ∧ K (Value.tuple #[Value.agg #[Value.int IntKind.i64 (sqI (176 * 176 * n)), Value.int IntKind.i64 (rUp (176 * 176 * n))], Value.int IntKind.i64 0]))) := by kernel_rfl
theorem vc_r19short (e d : Int) (K : Value → Prop) : callsX Tryd.prog (ΓD5) (noAnn) 13 [num e, num d] K = (
 True ∧
 bcase (!decide (Eye e)) (K (Value.tuple #[Value.agg #[Value.int IntKind.i64 0, Value.int IntKind.i64 0], Value.int IntKind.i64 2]))
 (bcase (decide (d < 1)) (K (Value.tuple #[Value.agg #[Value.int IntKind.i64 0, Value.int IntKind.i64 0], Value.int IntKind.i64 2]))
 (bcase (decide (d > 100000)) (K (Value.tuple #[Value.agg #[Value.int IntKind.i64 0, Value.int IntKind.i64 0], Value.int IntKind.i64 2]))
 ((I64 (IntKind.i64.wrap (IntKind.i64.wrap (IntKind.i64.wrap (131953 * d) * d) + IntKind.i64.wrap (5893750000 * e))) ∧ Den (IntKind.i64.wrap (317500 * d))) ∧
 (I64 (IntKind.i64.wrap (IntKind.i64.wrap (IntKind.i64.wrap (131953 * d) * d) + IntKind.i64.wrap (5893750000 * e))) ∧ Den (IntKind.i64.wrap (317500 * d)) ∧ I64 (-(-IntKind.i64.wrap (IntKind.i64.wrap (IntKind.i64.wrap (131953 * d) * d) + IntKind.i64.wrap (5893750000 * e)) / IntKind.i64.wrap (317500 * d)))) ∧
 K (Value.tuple #[Value.agg #[Value.int IntKind.i64 (IntKind.i64.wrap (IntKind.i64.wrap (IntKind.i64.wrap (131953 * d) * d) + IntKind.i64.wrap (5893750000 * e)) / IntKind.i64.wrap (317500 * d)), Value.int IntKind.i64 (-(-IntKind.i64.wrap (IntKind.i64.wrap (IntKind.i64.wrap (131953 * d) * d) + IntKind.i64.wrap (5893750000 * e)) / IntKind.i64.wrap (317500 * d)))], Value.int IntKind.i64 0]))))) := by kernel_rfl
theorem vc_r19horizon (n : Int) (K : Value → Prop) : callsX Tryd.prog (ΓD5) (noAnn) 21 [num n] K = (
 bcase (decide (n < 0)) (K (Value.tuple #[Value.agg #[Value.int IntKind.i64 0, Value.int IntKind.i64 0], Value.int IntKind.i64 2]))
 (bcase (decide (n > 1000000)) (K (Value.tuple #[Value.agg #[Value.int IntKind.i64 0, Value.int IntKind.i64 0], Value.int IntKind.i64 2])) (Rt 208 n ∧ K (Value.tuple #[Value.agg #[Value.int IntKind.i64 (sqI (208 * 208 * n)), Value.int IntKind.i64 (rUp (208 * 208 * n))], Value.int IntKind.i64 0])))) := by kernel_rfl
theorem vc_r19visible (e h : Int) (K : Value → Prop) : callsX Tryd.prog (ΓD5) (noAnn) 22 [num e, num h] K = (
 True ∧
 bcase (!decide (Eye e)) (K (Value.tuple #[Value.agg #[Value.int IntKind.i64 0, Value.int IntKind.i64 0], Value.int IntKind.i64 2]))
 (bcase (decide (h < 0)) (K (Value.tuple #[Value.agg #[Value.int IntKind.i64 0, Value.int IntKind.i64 0], Value.int IntKind.i64 2]))
 (bcase (decide (h > 1000000)) (K (Value.tuple #[Value.agg #[Value.int IntKind.i64 0, Value.int IntKind.i64 0], Value.int IntKind.i64 2]))
 (Rt 208 e ∧ Rt 208 h ∧ (I64 (sqI (208 * 208 * e) + sqI (208 * 208 * h)) ∧ I64 (rUp (208 * 208 * e) + rUp (208 * 208 * h))) ∧ K (Value.tuple #[Value.agg #[Value.int IntKind.i64 (sqI (208 * 208 * e) + sqI (208 * 208 * h)), Value.int IntKind.i64 (rUp (208 * 208 * e) + rUp (208 * 208 * h))], Value.int IntKind.i64 0]))))) := by kernel_rfl
end Go.Proofs.YtfcdcegamcjaiaaDoor
