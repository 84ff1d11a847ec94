/- Tokens: what the reference's functions, and the law, ask. -/
import Derived.Test.YtobmbbmompoliaaTkR
namespace Go.Proofs.Ytobmbbmompoliaa
open Go Go.Abs Go.RowKit
set_option linter.unusedVariables false
set_option linter.unusedSimpArgs false
theorem vc_r1letter (c : Int) (K : Value → Prop) : callsX Try.prog ([]) (noAnn) 36 [.int .u8 c] K = (
 bcase (decide (c ≥ 97)) (bcase (decide (c ≤ 122)) (K (Value.bool true)) (bcase (decide (c ≥ 65)) (K (Value.bool (decide (c ≤ 90)))) (K (Value.bool false)))) (bcase (decide (c ≥ 65)) (K (Value.bool (decide (c ≤ 90)))) (K (Value.bool false)))) := by kernel_rfl
theorem vc_r1digit (c : Int) (K : Value → Prop) : callsX Try.prog ([]) (noAnn) 37 [.int .u8 c] K = (
 bcase (decide (c ≥ 48)) (K (Value.bool (decide (c ≤ 57)))) (K (Value.bool false))) := by kernel_rfl
theorem vc_r1symbol (c : Int) (K : Value → Prop) : callsX Try.prog ([]) (fun _ => [(0, .times 16)]) 52 [.int .u8 c] K = (
 bcase ((↑45 : Int) == c) (K (Value.bool true))
 (bcase ((↑43 : Int) == c) (K (Value.bool true))
 (bcase ((↑58 : Int) == c) (K (Value.bool true))
 (bcase ((↑44 : Int) == c) (K (Value.bool true))
 (bcase ((↑59 : Int) == c) (K (Value.bool true))
 (bcase ((↑47 : Int) == c) (K (Value.bool true))
 (bcase ((↑61 : Int) == c) (K (Value.bool true))
 (bcase ((↑40 : Int) == c) (K (Value.bool true)) (bcase ((↑41 : Int) == c) (K (Value.bool true)) (bcase ((↑60 : Int) == c) (K (Value.bool true)) (bcase ((↑62 : Int) == c) (K (Value.bool true)) (bcase ((↑42 : Int) == c) (K (Value.bool true)) (bcase ((↑64 : Int) == c) (K (Value.bool true)) (bcase ((↑63 : Int) == c) (K (Value.bool true)) (K (Value.bool false)))))))))))))))) := by kernel_rfl
theorem vc_r1end (s : ByteArray) (i : Int) (K : Value → Prop) : callsX Try.prog (ΓEnd) (AEnd s) 33 [.string s, .int .i64 i] K = (
 bcase (inB i s.size)
 (bcase ((↑(s.get! i.toNat).toNat : Int) == 10) (K (Value.tuple #[Value.int IntKind.i64 (IntKind.i64.wrap (i + 1)), Value.int IntKind.i64 4]))
 (bcase (inB i s.size)
 (True ∧
 bcase (symI (↑(s.get! i.toNat).toNat : Int)) (K (Value.tuple #[Value.int IntKind.i64 (IntKind.i64.wrap (i + 1)), Value.int IntKind.i64 3]))
 (bcase (inB i s.size)
 (True ∧
 bcase (ltrI (↑(s.get! i.toNat).toNat : Int))
 ((∀ (s_1 : Nat), True → bcase (decide (IntKind.i64.wrap ((↑(runE wordI s i.toNat) : Int) - i) > 20)) (K (Value.tuple #[Value.int IntKind.i64 i, Value.int IntKind.i64 0])) (K (Value.tuple #[Value.int IntKind.i64 (↑(runE wordI s i.toNat) : Int), Value.int IntKind.i64 1]))) ∧
 ∃ (s_1 : Nat),
 (s = s ∧ i = i ∧ i = (↑s_1 : Int) ∧ True) ∧
 RunI wordI s i.toNat s_1 ∧
 ∀ (s_2 : Nat),
 RunI wordI s i.toNat s_2 →
 bcase (decide ((↑s_2 : Int) < (↑s.size : Int)))
 (bcase (inB (↑s_2 : Int) s.size)
 (True ∧
 bcase (ltrI (↑(s.get! (↑s_2 : Int).toNat).toNat : Int)) (∃ (s_3 : Nat), (s = s ∧ i = i ∧ IntKind.i64.wrap ((↑s_2 : Int) + 1) = (↑s_3 : Int) ∧ True) ∧ RunI wordI s i.toNat s_3 ∧ s.size - s_3 < s.size - s_2)
 (bcase (inB (↑s_2 : Int) s.size)
 (True ∧
 bcase (digI (↑(s.get! (↑s_2 : Int).toNat).toNat : Int)) (∃ (s_3 : Nat), (s = s ∧ i = i ∧ IntKind.i64.wrap ((↑s_2 : Int) + 1) = (↑s_3 : Int) ∧ True) ∧ RunI wordI s i.toNat s_3 ∧ s.size - s_3 < s.size - s_2)
 (bcase (inB (↑s_2 : Int) s.size) (bcase ((↑(s.get! (↑s_2 : Int).toNat).toNat : Int) == 95) (∃ (s_3 : Nat), (s = s ∧ i = i ∧ IntKind.i64.wrap ((↑s_2 : Int) + 1) = (↑s_3 : Int) ∧ True) ∧ RunI wordI s i.toNat s_3 ∧ s.size - s_3 < s.size - s_2) (∃ (s_3 : Nat), (s = s ∧ i = i ∧ (↑s_2 : Int) = (↑(runE wordI s i.toNat) : Int) ∧ True) ∧ True)) False))
 False))
 False)
 (∃ (s_3 : Nat), (s = s ∧ i = i ∧ (↑s_2 : Int) = (↑(runE wordI s i.toNat) : Int) ∧ True) ∧ True))
 ((∀ (s_1 : Nat),
 True →
 bcase ((↑(runE digI s i.toNat) : Int) == i) (K (Value.tuple #[Value.int IntKind.i64 i, Value.int IntKind.i64 0]))
 (bcase (decide (IntKind.i64.wrap ((↑(runE digI s i.toNat) : Int) + 1) < (↑s.size : Int)))
 (bcase (inB (↑(runE digI s i.toNat) : Int) s.size)
 (bcase ((↑(s.get! (↑(runE digI s i.toNat) : Int).toNat).toNat : Int) == 46)
 (bcase (inB (IntKind.i64.wrap ((↑(runE digI s i.toNat) : Int) + 1)) s.size)
 (True ∧
 bcase (digI (↑(s.get! (IntKind.i64.wrap ((↑(runE digI s i.toNat) : Int) + 1)).toNat).toNat : Int))
 ((∀ (s_2 : Nat), True → K (Value.tuple #[Value.int IntKind.i64 (↑(runE digI s (IntKind.i64.wrap ((↑(runE digI s i.toNat) : Int) + 1)).toNat) : Int), Value.int IntKind.i64 2])) ∧
 ∃ (s_2 : Nat),
 (s = s ∧ i = i ∧ IntKind.i64.wrap ((↑(runE digI s i.toNat) : Int) + 1) = (↑s_2 : Int) ∧ True) ∧
 RunI digI s (IntKind.i64.wrap ((↑(runE digI s i.toNat) : Int) + 1)).toNat s_2 ∧
 ∀ (s_3 : Nat),
 RunI digI s (IntKind.i64.wrap ((↑(runE digI s i.toNat) : Int) + 1)).toNat s_3 →
 bcase (decide ((↑s_3 : Int) < (↑s.size : Int)))
 (bcase (inB (↑s_3 : Int) s.size)
 (True ∧
 bcase (digI (↑(s.get! (↑s_3 : Int).toNat).toNat : Int)) (∃ (s_4 : Nat), (s = s ∧ i = i ∧ IntKind.i64.wrap ((↑s_3 : Int) + 1) = (↑s_4 : Int) ∧ True) ∧ RunI digI s (IntKind.i64.wrap ((↑(runE digI s i.toNat) : Int) + 1)).toNat s_4 ∧ s.size - s_4 < s.size - s_3)
 (∃ (s_4 : Nat), (s = s ∧ i = i ∧ (↑s_3 : Int) = (↑(runE digI s (IntKind.i64.wrap ((↑(runE digI s i.toNat) : Int) + 1)).toNat) : Int) ∧ True) ∧ True))
 False)
 (∃ (s_4 : Nat), (s = s ∧ i = i ∧ (↑s_3 : Int) = (↑(runE digI s (IntKind.i64.wrap ((↑(runE digI s i.toNat) : Int) + 1)).toNat) : Int) ∧ True) ∧ True))
 (K (Value.tuple #[Value.int IntKind.i64 (↑(runE digI s i.toNat) : Int), Value.int IntKind.i64 2])))
 False)
 (K (Value.tuple #[Value.int IntKind.i64 (↑(runE digI s i.toNat) : Int), Value.int IntKind.i64 2])))
 False)
 (K (Value.tuple #[Value.int IntKind.i64 (↑(runE digI s i.toNat) : Int), Value.int IntKind.i64 2])))) ∧
 ∃ (s_1 : Nat),
 (s = s ∧ i = i ∧ i = (↑s_1 : Int) ∧ True) ∧
 RunI digI s i.toNat s_1 ∧
 ∀ (s_2 : Nat),
 RunI digI s i.toNat s_2 →
 bcase (decide ((↑s_2 : Int) < (↑s.size : Int))) (bcase (inB (↑s_2 : Int) s.size) (True ∧ bcase (digI (↑(s.get! (↑s_2 : Int).toNat).toNat : Int)) (∃ (s_3 : Nat), (s = s ∧ i = i ∧ IntKind.i64.wrap ((↑s_2 : Int) + 1) = (↑s_3 : Int) ∧ True) ∧ RunI digI s i.toNat s_3 ∧ s.size - s_3 < s.size - s_2) (∃ (s_3 : Nat), (s = s ∧ i = i ∧ (↑s_2 : Int) = (↑(runE digI s i.toNat) : Int) ∧ True) ∧ True)) False)
 (∃ (s_3 : Nat), (s = s ∧ i = i ∧ (↑s_2 : Int) = (↑(runE digI s i.toNat) : Int) ∧ True) ∧ True)))
 False))
 False))
 False) := by kernel_rfl
theorem vc_r1tokens (s : ByteArray) : rcallsX Try.prog (ΓT1) (AT1 s) 17 [oneV (.string s)] [.one (tR (tokL s)), .agg [.v (num (tokLine s)), .v (num (tokCol s))], oneV (num (tokErr s))] = (
 bcase (decide ((↑s.size : Int) > 65536)) ([] = tokL s ∧ Value.int IntKind.i64 0 = Value.int IntKind.i64 (tokLine s) ∧ Value.int IntKind.i64 0 = Value.int IntKind.i64 (tokCol s) ∧ Value.int IntKind.i64 4 = Value.int IntKind.i64 (tokErr s) ∧ True)
 (∃ (s_1 : Nat × Int × Int × List Tok),
 (s = s ∧ s_1.snd.snd.snd.length = 0 ∧ 1 = s_1.snd.fst ∧ 0 = (↑s_1.fst : Int) + 1 - s_1.snd.snd.fst ∧ 0 = (↑s_1.fst : Int) ∧ Int.ofNat 0 = 0 ∧ Int.ofNat 0 = 0 ∧ s_1.snd.snd.snd = [] ∧ True) ∧
 TI s s_1.fst s_1.snd.fst s_1.snd.snd.fst s_1.snd.snd.snd ∧
 ∀ (s_2 : Nat × Int × Int × List (Int × ByteArray × Int × Int)),
 TI s s_2.fst s_2.snd.fst s_2.snd.snd.fst s_2.snd.snd.snd →
 bcase (decide ((↑s_2.fst : Int) < (↑s.size : Int)))
 (bcase (inB (↑s_2.fst : Int) s.size)
 (bcase ((↑(s.get! (↑s_2.fst : Int).toNat).toNat : Int) == 32)
 (∃ (s_3 : Nat × Int × Int × List Tok),
 (s = s ∧ s_2.snd.snd.snd.length = s_3.snd.snd.snd.length ∧ s_2.snd.fst = s_3.snd.fst ∧ (↑s_2.fst : Int) + 1 - s_2.snd.snd.fst = (↑s_3.fst : Int) + 1 - s_3.snd.snd.fst ∧ IntKind.i64.wrap ((↑s_2.fst : Int) + 1) = (↑s_3.fst : Int) ∧ Int.ofNat 0 = 0 ∧ Int.ofNat 0 = 0 ∧ s_2.snd.snd.snd = s_3.snd.snd.snd ∧ True) ∧
 TI s s_3.fst s_3.snd.fst s_3.snd.snd.fst s_3.snd.snd.snd ∧ s.size - s_3.fst < s.size - s_2.fst)
 (bcase (inB (↑s_2.fst : Int) s.size)
 (bcase ((↑(s.get! (↑s_2.fst : Int).toNat).toNat : Int) == 9)
 (∃ (s_3 : Nat × Int × Int × List Tok),
 (s = s ∧ s_2.snd.snd.snd.length = s_3.snd.snd.snd.length ∧ s_2.snd.fst = s_3.snd.fst ∧ (↑s_2.fst : Int) + 1 - s_2.snd.snd.fst = (↑s_3.fst : Int) + 1 - s_3.snd.snd.fst ∧ IntKind.i64.wrap ((↑s_2.fst : Int) + 1) = (↑s_3.fst : Int) ∧ Int.ofNat 0 = 0 ∧ Int.ofNat 0 = 0 ∧ s_2.snd.snd.snd = s_3.snd.snd.snd ∧ True) ∧
 TI s s_3.fst s_3.snd.fst s_3.snd.snd.fst s_3.snd.snd.snd ∧ s.size - s_3.fst < s.size - s_2.fst)
 (bcase (inB (↑s_2.fst : Int) s.size)
 (bcase ((↑(s.get! (↑s_2.fst : Int).toNat).toNat : Int) == 35)
 ((∀ (s_3 : Nat),
 True →
 ∃ (s_4 : Nat × Int × Int × List Tok),
 (s = s ∧ s_2.snd.snd.snd.length = s_4.snd.snd.snd.length ∧ s_2.snd.fst = s_4.snd.fst ∧ (↑s_2.fst : Int) + 1 - s_2.snd.snd.fst = (↑s_4.fst : Int) + 1 - s_4.snd.snd.fst ∧ (↑(runE nlI s (↑s_2.fst : Int).toNat) : Int) = (↑s_4.fst : Int) ∧ Int.ofNat 0 = 0 ∧ Int.ofNat 0 = 0 ∧ s_2.snd.snd.snd = s_4.snd.snd.snd ∧ True) ∧
 TI s s_4.fst s_4.snd.fst s_4.snd.snd.fst s_4.snd.snd.snd ∧ s.size - s_4.fst < s.size - s_2.fst) ∧
 ∃ (s_3 : Nat),
 (s = s ∧
 s_2.snd.snd.snd.length = s_2.snd.snd.snd.length ∧
 s_2.snd.fst = s_2.snd.fst ∧
 (↑s_2.fst : Int) + 1 - s_2.snd.snd.fst = (↑s_2.fst : Int) + 1 - s_2.snd.snd.fst ∧
 (↑s_2.fst : Int) = (↑s_3 : Int) ∧ Int.ofNat 0 = 0 ∧ Int.ofNat 0 = 0 ∧ s_2.snd.snd.snd = s_2.snd.snd.snd ∧ s_2.snd.fst = s_2.snd.fst ∧ IntKind.i64.wrap (IntKind.i64.wrap ((↑s_2.fst : Int) - ((↑s_2.fst : Int) + 1 - s_2.snd.snd.fst)) + 1) = IntKind.i64.wrap (IntKind.i64.wrap ((↑s_2.fst : Int) - ((↑s_2.fst : Int) + 1 - s_2.snd.snd.fst)) + 1) ∧ True) ∧
 RunI nlI s (↑s_2.fst : Int).toNat s_3 ∧
 ∀ (s_4 : Nat),
 RunI nlI s (↑s_2.fst : Int).toNat s_4 →
 bcase (decide ((↑s_4 : Int) < (↑s.size : Int)))
 (bcase (inB (↑s_4 : Int) s.size)
 (bcase ((↑(s.get! (↑s_4 : Int).toNat).toNat : Int) != 10)
 (∃ (s_5 : Nat),
 (s = s ∧
 s_2.snd.snd.snd.length = s_2.snd.snd.snd.length ∧
 s_2.snd.fst = s_2.snd.fst ∧
 (↑s_2.fst : Int) + 1 - s_2.snd.snd.fst = (↑s_2.fst : Int) + 1 - s_2.snd.snd.fst ∧
 IntKind.i64.wrap ((↑s_4 : Int) + 1) = (↑s_5 : Int) ∧ Int.ofNat 0 = 0 ∧ Int.ofNat 0 = 0 ∧ s_2.snd.snd.snd = s_2.snd.snd.snd ∧ s_2.snd.fst = s_2.snd.fst ∧ IntKind.i64.wrap (IntKind.i64.wrap ((↑s_2.fst : Int) - ((↑s_2.fst : Int) + 1 - s_2.snd.snd.fst)) + 1) = IntKind.i64.wrap (IntKind.i64.wrap ((↑s_2.fst : Int) - ((↑s_2.fst : Int) + 1 - s_2.snd.snd.fst)) + 1) ∧ True) ∧
 RunI nlI s (↑s_2.fst : Int).toNat s_5 ∧ s.size - s_5 < s.size - s_4)
 (∃ (s_5 : Nat),
 (s = s ∧
 s_2.snd.snd.snd.length = s_2.snd.snd.snd.length ∧
 s_2.snd.fst = s_2.snd.fst ∧
 (↑s_2.fst : Int) + 1 - s_2.snd.snd.fst = (↑s_2.fst : Int) + 1 - s_2.snd.snd.fst ∧
 (↑s_4 : Int) = (↑(runE nlI s (↑s_2.fst : Int).toNat) : Int) ∧ Int.ofNat 0 = 0 ∧ Int.ofNat 0 = 0 ∧ s_2.snd.snd.snd = s_2.snd.snd.snd ∧ s_2.snd.fst = s_2.snd.fst ∧ IntKind.i64.wrap (IntKind.i64.wrap ((↑s_2.fst : Int) - ((↑s_2.fst : Int) + 1 - s_2.snd.snd.fst)) + 1) = IntKind.i64.wrap (IntKind.i64.wrap ((↑s_2.fst : Int) - ((↑s_2.fst : Int) + 1 - s_2.snd.snd.fst)) + 1) ∧ True) ∧
 True))
 False)
 (∃ (s_5 : Nat),
 (s = s ∧
 s_2.snd.snd.snd.length = s_2.snd.snd.snd.length ∧
 s_2.snd.fst = s_2.snd.fst ∧
 (↑s_2.fst : Int) + 1 - s_2.snd.snd.fst = (↑s_2.fst : Int) + 1 - s_2.snd.snd.fst ∧
 (↑s_4 : Int) = (↑(runE nlI s (↑s_2.fst : Int).toNat) : Int) ∧ Int.ofNat 0 = 0 ∧ Int.ofNat 0 = 0 ∧ s_2.snd.snd.snd = s_2.snd.snd.snd ∧ s_2.snd.fst = s_2.snd.fst ∧ IntKind.i64.wrap (IntKind.i64.wrap ((↑s_2.fst : Int) - ((↑s_2.fst : Int) + 1 - s_2.snd.snd.fst)) + 1) = IntKind.i64.wrap (IntKind.i64.wrap ((↑s_2.fst : Int) - ((↑s_2.fst : Int) + 1 - s_2.snd.snd.fst)) + 1) ∧ True) ∧
 True))
 (EndOk s (↑s_2.fst : Int) ∧
 bcase (endK s (↑s_2.fst : Int) == 0) ([] = tokL s ∧ Value.int IntKind.i64 s_2.snd.fst = Value.int IntKind.i64 (tokLine s) ∧ Value.int IntKind.i64 (IntKind.i64.wrap (IntKind.i64.wrap ((↑s_2.fst : Int) - ((↑s_2.fst : Int) + 1 - s_2.snd.snd.fst)) + 1)) = Value.int IntKind.i64 (tokCol s) ∧ Value.int IntKind.i64 7 = Value.int IntKind.i64 (tokErr s) ∧ True)
 (bcase (endK s (↑s_2.fst : Int) == 4)
 (s_2.snd.snd.snd.length = s_2.snd.snd.snd.length ∧
 bcase (capOk (s_2.snd.snd.snd.length + 1) 40)
 (∃ (s_3 : Nat × Int × Int × List Tok),
 (s = s ∧
 s_2.snd.snd.snd.length + 1 = s_3.snd.snd.snd.length ∧
 s_2.snd.snd.snd.length + 1 ≠ 0 ∧
 IntKind.i64.wrap (s_2.snd.fst + 1) = s_3.snd.fst ∧
 endE s (↑s_2.fst : Int) = (↑s_3.fst : Int) + 1 - s_3.snd.snd.fst ∧ endE s (↑s_2.fst : Int) = (↑s_3.fst : Int) ∧ Int.ofNat 0 = 0 ∧ Int.ofNat 0 = 0 ∧ s_2.snd.snd.snd ++ [(endK s (↑s_2.fst : Int), ByteArray.mk #[], s_2.snd.fst, IntKind.i64.wrap (IntKind.i64.wrap ((↑s_2.fst : Int) - ((↑s_2.fst : Int) + 1 - s_2.snd.snd.fst)) + 1))] = s_3.snd.snd.snd ∧ True) ∧
 TI s s_3.fst s_3.snd.fst s_3.snd.snd.fst s_3.snd.snd.snd ∧ s.size - s_3.fst < s.size - s_2.fst)
 False)
 (bcase (decide (0 ≤ (↑s_2.fst : Int)) && (decide ((↑s_2.fst : Int) ≤ endE s (↑s_2.fst : Int)) && decide (endE s (↑s_2.fst : Int) ≤ (↑s.size : Int))))
 (s_2.snd.snd.snd.length = s_2.snd.snd.snd.length ∧
 bcase (capOk (s_2.snd.snd.snd.length + 1) 40)
 (∃ (s_3 : Nat × Int × Int × List Tok),
 (s = s ∧
 s_2.snd.snd.snd.length + 1 = s_3.snd.snd.snd.length ∧
 s_2.snd.snd.snd.length + 1 ≠ 0 ∧
 s_2.snd.fst = s_3.snd.fst ∧
 (↑s_2.fst : Int) + 1 - s_2.snd.snd.fst = (↑s_3.fst : Int) + 1 - s_3.snd.snd.fst ∧
 endE s (↑s_2.fst : Int) = (↑s_3.fst : Int) ∧ Int.ofNat 0 = 0 ∧ Int.ofNat 0 = 0 ∧ s_2.snd.snd.snd ++ [(endK s (↑s_2.fst : Int), s.extract (↑s_2.fst : Int).toNat (endE s (↑s_2.fst : Int)).toNat, s_2.snd.fst, IntKind.i64.wrap (IntKind.i64.wrap ((↑s_2.fst : Int) - ((↑s_2.fst : Int) + 1 - s_2.snd.snd.fst)) + 1))] = s_3.snd.snd.snd ∧ True) ∧
 TI s s_3.fst s_3.snd.fst s_3.snd.snd.fst s_3.snd.snd.snd ∧ s.size - s_3.fst < s.size - s_2.fst)
 False)
 False))))
 False))
 False))
 False)
 (s_2.snd.snd.snd.length = s_2.snd.snd.snd.length ∧
 bcase (capOk (s_2.snd.snd.snd.length + 1) 40)
 (s_2.snd.snd.snd.length + 1 = (s_2.snd.snd.snd ++ [(5, ByteArray.mk #[], s_2.snd.fst, IntKind.i64.wrap (IntKind.i64.wrap ((↑s.size : Int) - ((↑s_2.fst : Int) + 1 - s_2.snd.snd.fst)) + 1))]).length ∧
 s_2.snd.snd.snd ++ [(5, ByteArray.mk #[], s_2.snd.fst, IntKind.i64.wrap (IntKind.i64.wrap ((↑s.size : Int) - ((↑s_2.fst : Int) + 1 - s_2.snd.snd.fst)) + 1))] = tokL s ∧ Value.int IntKind.i64 0 = Value.int IntKind.i64 (tokLine s) ∧ Value.int IntKind.i64 0 = Value.int IntKind.i64 (tokCol s) ∧ Value.int IntKind.i64 0 = Value.int IntKind.i64 (tokErr s) ∧ True)
 False))) := by kernel_rfl
theorem vc_dcname (s : ByteArray) (K : Value → Prop) : callsX Try.prog (ΓNa) (AAl s) 19 [.string s] K = (
 bcase (decide ((↑s.size : Int) ≤ 20))
 (∃ (s_1 : Nat),
 (s = s ∧ Value.func (Fn.func 34) #[] #[] = Value.func (Fn.func 34) #[] #[] ∧ (↑s.size : Int) = (↑s.size : Int) ∧ 0 = (↑s_1 : Int) ∧ True) ∧
 RunI wordI s 0 s_1 ∧
 ∀ (s_2 : Nat),
 RunI wordI s 0 s_2 →
 bcase (decide ((↑s_2 : Int) < (↑s.size : Int)))
 (bcase (inB (↑s_2 : Int) s.size) (True ∧ bcase (!wordI (↑(s.get! (↑s_2 : Int).toNat).toNat : Int)) (K (Value.bool false)) (∃ (s_3 : Nat), (s = s ∧ Value.func (Fn.func 34) #[] #[] = Value.func (Fn.func 34) #[] #[] ∧ (↑s.size : Int) = (↑s.size : Int) ∧ IntKind.i64.wrap ((↑s_2 : Int) + 1) = (↑s_3 : Int) ∧ True) ∧ RunI wordI s 0 s_3 ∧ s.size - s_3 < s.size - s_2)) False)
 (bcase (!s.toList == []) (bcase (inB 0 s.size) (True ∧ K (Value.bool (ltrI (↑(s.get! 0).toNat : Int)))) False) (K (Value.bool false))))
 (K (Value.bool false))) := by kernel_rfl
theorem vc_r1name (s : ByteArray) (K : Value → Prop) : callsX Try.prog (ΓNr) (ANa s) 20 [.string s] K = (
 bcase ((↑s.size : Int) == 0) (K (Value.bool false))
 (bcase (decide ((↑s.size : Int) > 20)) (K (Value.bool false))
 (bcase (inB 0 s.size)
 (True ∧
 bcase (!ltrI (↑(s.get! 0).toNat : Int)) (K (Value.bool false))
 (∃ (s_1 : Nat),
 (s = s ∧ 0 = (↑s_1 : Int) ∧ True) ∧
 RunI wordI s 0 s_1 ∧
 ∀ (s_2 : Nat),
 RunI wordI s 0 s_2 →
 bcase (decide ((↑s_2 : Int) < (↑s.size : Int)))
 (bcase (inB (↑s_2 : Int) s.size)
 (True ∧
 bcase (!ltrI (↑(s.get! (↑s_2 : Int).toNat).toNat : Int))
 (bcase (inB (↑s_2 : Int) s.size)
 (True ∧
 bcase (!digI (↑(s.get! (↑s_2 : Int).toNat).toNat : Int)) (bcase (inB (↑s_2 : Int) s.size) (bcase ((↑(s.get! (↑s_2 : Int).toNat).toNat : Int) != 95) (K (Value.bool false)) (∃ (s_3 : Nat), (s = s ∧ IntKind.i64.wrap ((↑s_2 : Int) + 1) = (↑s_3 : Int) ∧ True) ∧ RunI wordI s 0 s_3 ∧ s.size - s_3 < s.size - s_2)) False)
 (∃ (s_3 : Nat), (s = s ∧ IntKind.i64.wrap ((↑s_2 : Int) + 1) = (↑s_3 : Int) ∧ True) ∧ RunI wordI s 0 s_3 ∧ s.size - s_3 < s.size - s_2))
 False)
 (∃ (s_3 : Nat), (s = s ∧ IntKind.i64.wrap ((↑s_2 : Int) + 1) = (↑s_3 : Int) ∧ True) ∧ RunI wordI s 0 s_3 ∧ s.size - s_3 < s.size - s_2))
 False)
 (K (Value.bool true))))
 False))) := by kernel_rfl
theorem vc_eqT (xs ys : List Tok) : rcallsX Try.prog ([]) (AEqT xs) 18 [.one (tR xs), .one (tR ys)] [.one (.v (.bool true))] = (
 bcase ((↑xs.length : Int) != (↑ys.length : Int)) (Value.bool false = Value.bool true ∧ True)
 (∃ (s : Nat),
 (xs.length = xs.length ∧ ys.length = ys.length ∧ (↑xs.length : Int) = (↑xs.length : Int) ∧ 0 = (↑s : Int) ∧ xs = xs ∧ ys = ys ∧ True) ∧
 s.le xs.length ∧
 ∀ (s : Nat),
 s.le xs.length →
 bcase (decide ((↑s : Int) < (↑xs.length : Int)))
 (bcase (inB (↑s : Int) xs.length)
 (bcase ((↑s : Int).toNat.blt xs.length)
 (bcase (inB (↑s : Int) ys.length)
 (bcase ((↑s : Int).toNat.blt ys.length)
 (bcase
 (!((xs.getD (↑s : Int).toNat (0, ByteArray.mk #[], 0, 0)).fst == (ys.getD (↑s : Int).toNat (0, ByteArray.mk #[], 0, 0)).fst &&
 (ByteArray.toList (xs.getD (↑s : Int).toNat (0, ByteArray.mk #[], 0, 0)).snd.fst == ByteArray.toList (ys.getD (↑s : Int).toNat (0, ByteArray.mk #[], 0, 0)).snd.fst &&
 ((xs.getD (↑s : Int).toNat (0, ByteArray.mk #[], 0, 0)).snd.snd.fst == (ys.getD (↑s : Int).toNat (0, ByteArray.mk #[], 0, 0)).snd.snd.fst && ((xs.getD (↑s : Int).toNat (0, ByteArray.mk #[], 0, 0)).snd.snd.snd == (ys.getD (↑s : Int).toNat (0, ByteArray.mk #[], 0, 0)).snd.snd.snd && true) && true))))
 (Value.bool false = Value.bool true ∧ True) (∃ (s_1 : Nat), (xs.length = xs.length ∧ ys.length = ys.length ∧ (↑xs.length : Int) = (↑xs.length : Int) ∧ IntKind.i64.wrap ((↑s : Int) + 1) = (↑s_1 : Int) ∧ xs = xs ∧ ys = ys ∧ True) ∧ s_1.le xs.length ∧ xs.length - s_1 < xs.length - s))
 False)
 False)
 False)
 False)
 (Value.bool true = Value.bool true ∧ True))) := by kernel_rfl
theorem vc_lawtokens (s : ByteArray) (tl : ByteArray → List Tok) (tn tc te : ByteArray → Int) (nb : ByteArray → Bool) : rcallsX Try.prog (ΓLt1 tl tn tc te nb) (noAnn) 6 [oneV (.string s)] [oneV (.bool true)] = (
 True ∧
 bcase (decide ((↑s.size : Int) > 400))
 (bcase (decide ((↑s.size : Int) ≤ 65536)) (Value.bool true = Value.bool true ∧ True)
 (bcase (decide ((↑s.size : Int) > 65636)) (Value.bool true = Value.bool true ∧ True)
 (True ∧
 True ∧
 bcase (te s == te s)
 (bcase (tn s == tn s && (tc s == tc s && true)) (0 + (tl s).length ≤ (tl s).length ∧ ∀ (z : List (Int × ByteArray × Int × Int)), z = List.take (tl s).length (tl s) → 0 + (tl s).length ≤ (tl s).length ∧ ∀ (z_1 : List (Int × ByteArray × Int × Int)), z_1 = List.take (tl s).length (tl s) → EqT z z_1 ∧ True ∧ True ∧ Value.bool (nb s == nb s) = Value.bool true ∧ True)
 (Value.bool false = Value.bool true ∧ True))
 (Value.bool false = Value.bool true ∧ True))))
 (bcase (decide ((↑s.size : Int) > 65636)) (Value.bool true = Value.bool true ∧ True)
 (True ∧
 True ∧
 bcase (te s == te s)
 (bcase (tn s == tn s && (tc s == tc s && true)) (0 + (tl s).length ≤ (tl s).length ∧ ∀ (z : List (Int × ByteArray × Int × Int)), z = List.take (tl s).length (tl s) → 0 + (tl s).length ≤ (tl s).length ∧ ∀ (z_1 : List (Int × ByteArray × Int × Int)), z_1 = List.take (tl s).length (tl s) → EqT z z_1 ∧ True ∧ True ∧ Value.bool (nb s == nb s) = Value.bool true ∧ True)
 (Value.bool false = Value.bool true ∧ True))
 (Value.bool false = Value.bool true ∧ True)))) := by kernel_rfl
end Go.Proofs.Ytobmbbmompoliaa
