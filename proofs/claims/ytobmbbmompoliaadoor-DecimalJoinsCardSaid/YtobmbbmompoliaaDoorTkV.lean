/- Tokens: what the program's functions ask. -/
import Derived.Test.YtobmbbmompoliaaDoorTkS
namespace Go.Proofs.YtobmbbmompoliaaDoor
open Go Go.Abs Go.RowKit
set_option linter.unusedVariables false
set_option linter.unusedSimpArgs false
theorem vc_dcletter (c : Int) (K : Value → Prop) : callsX Tryd.prog ([]) (noAnn) 29 [.int .u8 c] K = (
 bcase (decide (c ≥ 97)) (bcase (decide (c ≤ 122)) (K (Value.bool true)) (bcase (decide (c ≥ 65)) (K (Value.bool (decide (c ≤ 90)))) (K (Value.bool false)))) (bcase (decide (c ≥ 65)) (K (Value.bool (decide (c ≤ 90)))) (K (Value.bool false)))) := by kernel_rfl
theorem vc_dcdigit (c : Int) (K : Value → Prop) : callsX Tryd.prog ([]) (noAnn) 24 [.int .u8 c] K = (
 bcase (decide (c ≥ 48)) (K (Value.bool (decide (c ≤ 57)))) (K (Value.bool false))) := by kernel_rfl
theorem vc_dcword (c : Int) (K : Value → Prop) : callsX Tryd.prog (ΓWd) (noAnn) 30 [.int .u8 c] K = (
 True ∧ bcase (ltrI c) (K (Value.bool true)) (True ∧ bcase (digI c) (K (Value.bool true)) (K (Value.bool (c == 95))))) := by kernel_rfl
theorem vc_dctok1 (c : Int) (K : Value → Prop) : callsX Tryd.prog ([]) (noAnn) 28 [.int .u8 c] K = (
 K (Value.bool (c != 10))) := by kernel_rfl
theorem vc_dctokens (s : ByteArray) : rcallsX Tryd.prog (ΓTk) (ATk s) 5 [oneV (.string s)] [.one (tR (tokL s)), .agg [.v (num (tokLine s)), .v (num (tokCol s))], oneV (num (tokErr s))] = (
 bcase (decide ((↑s.size : Int) > 65536)) ([] = tokL s ∧ Value.int IntKind.i64 0 = Value.int IntKind.i64 (tokLine s) ∧ Value.int IntKind.i64 0 = Value.int IntKind.i64 (tokCol s) ∧ Value.int IntKind.i64 4 = Value.int IntKind.i64 (tokErr s) ∧ True)
 (∃ (s_1 : Nat × Int × Int × List Tok),
 (s = s ∧ s_1.snd.snd.snd.length = 0 ∧ Int.ofNat 0 = 0 ∧ Int.ofNat 0 = 0 ∧ s = s ∧ 0 = (↑s_1.fst : Int) ∧ 1 = s_1.snd.fst ∧ 1 = s_1.snd.snd.fst ∧ s_1.snd.snd.snd = [] ∧ True) ∧
 TI s s_1.fst s_1.snd.fst s_1.snd.snd.fst s_1.snd.snd.snd ∧
 ∀ (s_2 : Nat × Int × Int × List (Int × ByteArray × Int × Int)),
 TI s s_2.fst s_2.snd.fst s_2.snd.snd.fst s_2.snd.snd.snd →
 bcase (decide ((↑s_2.fst : Int) < (↑s.size : Int)))
 (bcase (inB (↑s_2.fst : Int) s.size)
 (bcase ((↑(s.get! (↑s_2.fst : Int).toNat).toNat : Int) == 32)
 (∃ (s_3 : Nat × Int × Int × List Tok),
 (s = s ∧ s_2.snd.snd.snd.length = s_3.snd.snd.snd.length ∧ Int.ofNat 0 = 0 ∧ Int.ofNat 0 = 0 ∧ s = s ∧ IntKind.i64.wrap ((↑s_2.fst : Int) + 1) = (↑s_3.fst : Int) ∧ s_2.snd.fst = s_3.snd.fst ∧ IntKind.i64.wrap (s_2.snd.snd.fst + 1) = s_3.snd.snd.fst ∧ s_2.snd.snd.snd = s_3.snd.snd.snd ∧ True) ∧ TI s s_3.fst s_3.snd.fst s_3.snd.snd.fst s_3.snd.snd.snd ∧ s.size - s_3.fst < s.size - s_2.fst)
 (bcase ((↑(s.get! (↑s_2.fst : Int).toNat).toNat : Int) == 9)
 (∃ (s_3 : Nat × Int × Int × List Tok),
 (s = s ∧ s_2.snd.snd.snd.length = s_3.snd.snd.snd.length ∧ Int.ofNat 0 = 0 ∧ Int.ofNat 0 = 0 ∧ s = s ∧ IntKind.i64.wrap ((↑s_2.fst : Int) + 1) = (↑s_3.fst : Int) ∧ s_2.snd.fst = s_3.snd.fst ∧ IntKind.i64.wrap (s_2.snd.snd.fst + 1) = s_3.snd.snd.fst ∧ s_2.snd.snd.snd = s_3.snd.snd.snd ∧ True) ∧ TI s s_3.fst s_3.snd.fst s_3.snd.snd.fst s_3.snd.snd.snd ∧ s.size - s_3.fst < s.size - s_2.fst)
 (bcase ((↑(s.get! (↑s_2.fst : Int).toNat).toNat : Int) == 10)
 (s_2.snd.snd.snd.length = s_2.snd.snd.snd.length ∧
 bcase (capOk (s_2.snd.snd.snd.length + 1) 40)
 (∃ (s_3 : Nat × Int × Int × List Tok),
 (s = s ∧ s_2.snd.snd.snd.length + 1 = s_3.snd.snd.snd.length ∧ s_2.snd.snd.snd.length + 1 ≠ 0 ∧ Int.ofNat 0 = 0 ∧ Int.ofNat 0 = 0 ∧ s = s ∧ IntKind.i64.wrap ((↑s_2.fst : Int) + 1) = (↑s_3.fst : Int) ∧ IntKind.i64.wrap (s_2.snd.fst + 1) = s_3.snd.fst ∧ 1 = s_3.snd.snd.fst ∧ s_2.snd.snd.snd ++ [(4, ByteArray.mk #[], s_2.snd.fst, s_2.snd.snd.fst)] = s_3.snd.snd.snd ∧ True) ∧
 TI s s_3.fst s_3.snd.fst s_3.snd.snd.fst s_3.snd.snd.snd ∧ s.size - s_3.fst < s.size - s_2.fst)
 False)
 (bcase ((↑(s.get! (↑s_2.fst : Int).toNat).toNat : Int) == 35)
 ((∀ (s_3 : Nat),
 True →
 ∃ (s_4 : Nat × Int × Int × List Tok),
 (s = s ∧
 s_2.snd.snd.snd.length = s_4.snd.snd.snd.length ∧
 Int.ofNat 0 = 0 ∧ Int.ofNat 0 = 0 ∧ s = s ∧ IntKind.i64.wrap ((↑s_2.fst : Int) + IntKind.i64.wrap ((↑(runE nlI s (↑s_2.fst : Int).toNat) : Int) - (↑s_2.fst : Int))) = (↑s_4.fst : Int) ∧ s_2.snd.fst = s_4.snd.fst ∧ IntKind.i64.wrap (s_2.snd.snd.fst + IntKind.i64.wrap ((↑(runE nlI s (↑s_2.fst : Int).toNat) : Int) - (↑s_2.fst : Int))) = s_4.snd.snd.fst ∧ s_2.snd.snd.snd = s_4.snd.snd.snd ∧ True) ∧
 TI s s_4.fst s_4.snd.fst s_4.snd.snd.fst s_4.snd.snd.snd ∧ s.size - s_4.fst < s.size - s_2.fst) ∧
 ∃ (s_3 : Nat),
 ((↑s_2.fst : Int) = (↑s_2.fst : Int) ∧ Value.func (Fn.func 28) #[] #[] = Value.func (Fn.func 28) #[] #[] ∧ (↑s_2.fst : Int) = (↑s_3 : Int) ∧ Int.ofNat 0 = 0 ∧ Int.ofNat 0 = 0 ∧ s = s ∧ (↑s_2.fst : Int) = (↑s_2.fst : Int) ∧ s_2.snd.fst = s_2.snd.fst ∧ s_2.snd.snd.fst = s_2.snd.snd.fst ∧ s_2.snd.snd.snd = s_2.snd.snd.snd ∧ True) ∧
 RunI nlI s (↑s_2.fst : Int).toNat s_3 ∧
 ∀ (s_4 : Nat),
 RunI nlI s (↑s_2.fst : Int).toNat s_4 →
 bcase (decide ((↑s_4 : Int) < (↑s.size : Int)))
 (bcase (inB (↑s_4 : Int) s.size)
 (True ∧
 bcase (nlI (↑(s.get! (↑s_4 : Int).toNat).toNat : Int))
 (∃ (s_5 : Nat),
 ((↑s_2.fst : Int) = (↑s_2.fst : Int) ∧ Value.func (Fn.func 28) #[] #[] = Value.func (Fn.func 28) #[] #[] ∧ IntKind.i64.wrap ((↑s_4 : Int) + 1) = (↑s_5 : Int) ∧ Int.ofNat 0 = 0 ∧ Int.ofNat 0 = 0 ∧ s = s ∧ (↑s_2.fst : Int) = (↑s_2.fst : Int) ∧ s_2.snd.fst = s_2.snd.fst ∧ s_2.snd.snd.fst = s_2.snd.snd.fst ∧ s_2.snd.snd.snd = s_2.snd.snd.snd ∧ True) ∧
 RunI nlI s (↑s_2.fst : Int).toNat s_5 ∧ s.size - s_5 < s.size - s_4)
 (∃ (s_5 : Nat), ((↑s_2.fst : Int) = (↑s_2.fst : Int) ∧ Value.func (Fn.func 28) #[] #[] = Value.func (Fn.func 28) #[] #[] ∧ (↑s_4 : Int) = (↑(runE nlI s (↑s_2.fst : Int).toNat) : Int) ∧ Int.ofNat 0 = 0 ∧ Int.ofNat 0 = 0 ∧ s = s ∧ (↑s_2.fst : Int) = (↑s_2.fst : Int) ∧ s_2.snd.fst = s_2.snd.fst ∧ s_2.snd.snd.fst = s_2.snd.snd.fst ∧ s_2.snd.snd.snd = s_2.snd.snd.snd ∧ True) ∧ True))
 False)
 (∃ (s_5 : Nat), ((↑s_2.fst : Int) = (↑s_2.fst : Int) ∧ Value.func (Fn.func 28) #[] #[] = Value.func (Fn.func 28) #[] #[] ∧ (↑s_4 : Int) = (↑(runE nlI s (↑s_2.fst : Int).toNat) : Int) ∧ Int.ofNat 0 = 0 ∧ Int.ofNat 0 = 0 ∧ s = s ∧ (↑s_2.fst : Int) = (↑s_2.fst : Int) ∧ s_2.snd.fst = s_2.snd.fst ∧ s_2.snd.snd.fst = s_2.snd.snd.fst ∧ s_2.snd.snd.snd = s_2.snd.snd.snd ∧ True) ∧ True))
 (True ∧
 bcase (ltrI (↑(s.get! (↑s_2.fst : Int).toNat).toNat : Int))
 ((∀ (s_3 : Nat),
 True →
 bcase (decide (IntKind.i64.wrap ((↑(runE wordI s (↑s_2.fst : Int).toNat) : Int) - (↑s_2.fst : Int)) > 20)) ([] = tokL s ∧ Value.int IntKind.i64 s_2.snd.fst = Value.int IntKind.i64 (tokLine s) ∧ Value.int IntKind.i64 s_2.snd.snd.fst = Value.int IntKind.i64 (tokCol s) ∧ Value.int IntKind.i64 7 = Value.int IntKind.i64 (tokErr s) ∧ True)
 (bcase (decide (0 ≤ (↑s_2.fst : Int)) && (decide ((↑s_2.fst : Int) ≤ IntKind.i64.wrap ((↑s_2.fst : Int) + IntKind.i64.wrap ((↑(runE wordI s (↑s_2.fst : Int).toNat) : Int) - (↑s_2.fst : Int)))) && decide (IntKind.i64.wrap ((↑s_2.fst : Int) + IntKind.i64.wrap ((↑(runE wordI s (↑s_2.fst : Int).toNat) : Int) - (↑s_2.fst : Int))) ≤ (↑s.size : Int))))
 (s_2.snd.snd.snd.length = s_2.snd.snd.snd.length ∧
 bcase (capOk (s_2.snd.snd.snd.length + 1) 40)
 (∃ (s_4 : Nat × Int × Int × List Tok),
 (s = s ∧
 s_2.snd.snd.snd.length + 1 = s_4.snd.snd.snd.length ∧
 s_2.snd.snd.snd.length + 1 ≠ 0 ∧
 Int.ofNat 0 = 0 ∧
 Int.ofNat 0 = 0 ∧
 s = s ∧
 IntKind.i64.wrap ((↑s_2.fst : Int) + IntKind.i64.wrap ((↑(runE wordI s (↑s_2.fst : Int).toNat) : Int) - (↑s_2.fst : Int))) = (↑s_4.fst : Int) ∧
 s_2.snd.fst = s_4.snd.fst ∧
 IntKind.i64.wrap (s_2.snd.snd.fst + IntKind.i64.wrap ((↑(runE wordI s (↑s_2.fst : Int).toNat) : Int) - (↑s_2.fst : Int))) = s_4.snd.snd.fst ∧ s_2.snd.snd.snd ++ [(1, s.extract (↑s_2.fst : Int).toNat (IntKind.i64.wrap ((↑s_2.fst : Int) + IntKind.i64.wrap ((↑(runE wordI s (↑s_2.fst : Int).toNat) : Int) - (↑s_2.fst : Int)))).toNat, s_2.snd.fst, s_2.snd.snd.fst)] = s_4.snd.snd.snd ∧ True) ∧
 TI s s_4.fst s_4.snd.fst s_4.snd.snd.fst s_4.snd.snd.snd ∧ s.size - s_4.fst < s.size - s_2.fst)
 False)
 False)) ∧
 ∃ (s_3 : Nat),
 ((↑s_2.fst : Int) = (↑s_2.fst : Int) ∧ Value.func (Fn.func 30) #[] #[] = Value.func (Fn.func 30) #[] #[] ∧ (↑s_2.fst : Int) = (↑s_3 : Int) ∧ Int.ofNat 0 = 0 ∧ Int.ofNat 0 = 0 ∧ s = s ∧ (↑s_2.fst : Int) = (↑s_2.fst : Int) ∧ s_2.snd.fst = s_2.snd.fst ∧ s_2.snd.snd.fst = s_2.snd.snd.fst ∧ s_2.snd.snd.snd = s_2.snd.snd.snd ∧ True) ∧
 RunI wordI s (↑s_2.fst : Int).toNat s_3 ∧
 ∀ (s_4 : Nat),
 RunI wordI s (↑s_2.fst : Int).toNat s_4 →
 bcase (decide ((↑s_4 : Int) < (↑s.size : Int)))
 (bcase (inB (↑s_4 : Int) s.size)
 (True ∧
 bcase (wordI (↑(s.get! (↑s_4 : Int).toNat).toNat : Int))
 (∃ (s_5 : Nat),
 ((↑s_2.fst : Int) = (↑s_2.fst : Int) ∧ Value.func (Fn.func 30) #[] #[] = Value.func (Fn.func 30) #[] #[] ∧ IntKind.i64.wrap ((↑s_4 : Int) + 1) = (↑s_5 : Int) ∧ Int.ofNat 0 = 0 ∧ Int.ofNat 0 = 0 ∧ s = s ∧ (↑s_2.fst : Int) = (↑s_2.fst : Int) ∧ s_2.snd.fst = s_2.snd.fst ∧ s_2.snd.snd.fst = s_2.snd.snd.fst ∧ s_2.snd.snd.snd = s_2.snd.snd.snd ∧ True) ∧
 RunI wordI s (↑s_2.fst : Int).toNat s_5 ∧ s.size - s_5 < s.size - s_4)
 (∃ (s_5 : Nat), ((↑s_2.fst : Int) = (↑s_2.fst : Int) ∧ Value.func (Fn.func 30) #[] #[] = Value.func (Fn.func 30) #[] #[] ∧ (↑s_4 : Int) = (↑(runE wordI s (↑s_2.fst : Int).toNat) : Int) ∧ Int.ofNat 0 = 0 ∧ Int.ofNat 0 = 0 ∧ s = s ∧ (↑s_2.fst : Int) = (↑s_2.fst : Int) ∧ s_2.snd.fst = s_2.snd.fst ∧ s_2.snd.snd.fst = s_2.snd.snd.fst ∧ s_2.snd.snd.snd = s_2.snd.snd.snd ∧ True) ∧ True))
 False)
 (∃ (s_5 : Nat), ((↑s_2.fst : Int) = (↑s_2.fst : Int) ∧ Value.func (Fn.func 30) #[] #[] = Value.func (Fn.func 30) #[] #[] ∧ (↑s_4 : Int) = (↑(runE wordI s (↑s_2.fst : Int).toNat) : Int) ∧ Int.ofNat 0 = 0 ∧ Int.ofNat 0 = 0 ∧ s = s ∧ (↑s_2.fst : Int) = (↑s_2.fst : Int) ∧ s_2.snd.fst = s_2.snd.fst ∧ s_2.snd.snd.fst = s_2.snd.snd.fst ∧ s_2.snd.snd.snd = s_2.snd.snd.snd ∧ True) ∧ True))
 (True ∧
 bcase (digI (↑(s.get! (↑s_2.fst : Int).toNat).toNat : Int))
 ((∀ (s_3 : Nat),
 True →
 bcase (decide (IntKind.i64.wrap ((↑s_2.fst : Int) + IntKind.i64.wrap ((↑(runE digI s (↑s_2.fst : Int).toNat) : Int) - (↑s_2.fst : Int))) < (↑s.size : Int)))
 (bcase (inB (IntKind.i64.wrap ((↑s_2.fst : Int) + IntKind.i64.wrap ((↑(runE digI s (↑s_2.fst : Int).toNat) : Int) - (↑s_2.fst : Int)))) s.size)
 (bcase ((↑(s.get! (IntKind.i64.wrap ((↑s_2.fst : Int) + IntKind.i64.wrap ((↑(runE digI s (↑s_2.fst : Int).toNat) : Int) - (↑s_2.fst : Int)))).toNat).toNat : Int) == 46)
 ((∀ (s_4 : Nat),
 True →
 bcase (decide (IntKind.i64.wrap ((↑(runE digI s (IntKind.i64.wrap (IntKind.i64.wrap ((↑s_2.fst : Int) + IntKind.i64.wrap ((↑(runE digI s (↑s_2.fst : Int).toNat) : Int) - (↑s_2.fst : Int))) + 1)).toNat) : Int) - IntKind.i64.wrap (IntKind.i64.wrap ((↑s_2.fst : Int) + IntKind.i64.wrap ((↑(runE digI s (↑s_2.fst : Int).toNat) : Int) - (↑s_2.fst : Int))) + 1)) > 0))
 (bcase
 (decide (0 ≤ (↑s_2.fst : Int)) &&
 (decide
 ((↑s_2.fst : Int) ≤
 IntKind.i64.wrap
 ((↑s_2.fst : Int) +
 IntKind.i64.wrap
 (IntKind.i64.wrap ((↑(runE digI s (↑s_2.fst : Int).toNat) : Int) - (↑s_2.fst : Int)) +
 IntKind.i64.wrap (1 + IntKind.i64.wrap ((↑(runE digI s (IntKind.i64.wrap (IntKind.i64.wrap ((↑s_2.fst : Int) + IntKind.i64.wrap ((↑(runE digI s (↑s_2.fst : Int).toNat) : Int) - (↑s_2.fst : Int))) + 1)).toNat) : Int) - IntKind.i64.wrap (IntKind.i64.wrap ((↑s_2.fst : Int) + IntKind.i64.wrap ((↑(runE digI s (↑s_2.fst : Int).toNat) : Int) - (↑s_2.fst : Int))) + 1)))))) &&
 decide
 (IntKind.i64.wrap
 ((↑s_2.fst : Int) +
 IntKind.i64.wrap
 (IntKind.i64.wrap ((↑(runE digI s (↑s_2.fst : Int).toNat) : Int) - (↑s_2.fst : Int)) +
 IntKind.i64.wrap (1 + IntKind.i64.wrap ((↑(runE digI s (IntKind.i64.wrap (IntKind.i64.wrap ((↑s_2.fst : Int) + IntKind.i64.wrap ((↑(runE digI s (↑s_2.fst : Int).toNat) : Int) - (↑s_2.fst : Int))) + 1)).toNat) : Int) - IntKind.i64.wrap (IntKind.i64.wrap ((↑s_2.fst : Int) + IntKind.i64.wrap ((↑(runE digI s (↑s_2.fst : Int).toNat) : Int) - (↑s_2.fst : Int))) + 1))))) ≤
 (↑s.size : Int))))
 (s_2.snd.snd.snd.length = s_2.snd.snd.snd.length ∧
 bcase (capOk (s_2.snd.snd.snd.length + 1) 40)
 (∃ (s_5 : Nat × Int × Int × List Tok),
 (s = s ∧
 s_2.snd.snd.snd.length + 1 = s_5.snd.snd.snd.length ∧
 s_2.snd.snd.snd.length + 1 ≠ 0 ∧
 Int.ofNat 0 = 0 ∧
 Int.ofNat 0 = 0 ∧
 s = s ∧
 IntKind.i64.wrap
 ((↑s_2.fst : Int) +
 IntKind.i64.wrap
 (IntKind.i64.wrap ((↑(runE digI s (↑s_2.fst : Int).toNat) : Int) - (↑s_2.fst : Int)) +
 IntKind.i64.wrap (1 + IntKind.i64.wrap ((↑(runE digI s (IntKind.i64.wrap (IntKind.i64.wrap ((↑s_2.fst : Int) + IntKind.i64.wrap ((↑(runE digI s (↑s_2.fst : Int).toNat) : Int) - (↑s_2.fst : Int))) + 1)).toNat) : Int) - IntKind.i64.wrap (IntKind.i64.wrap ((↑s_2.fst : Int) + IntKind.i64.wrap ((↑(runE digI s (↑s_2.fst : Int).toNat) : Int) - (↑s_2.fst : Int))) + 1))))) =
 (↑s_5.fst : Int) ∧
 s_2.snd.fst = s_5.snd.fst ∧
 IntKind.i64.wrap
 (s_2.snd.snd.fst +
 IntKind.i64.wrap
 (IntKind.i64.wrap ((↑(runE digI s (↑s_2.fst : Int).toNat) : Int) - (↑s_2.fst : Int)) +
 IntKind.i64.wrap (1 + IntKind.i64.wrap ((↑(runE digI s (IntKind.i64.wrap (IntKind.i64.wrap ((↑s_2.fst : Int) + IntKind.i64.wrap ((↑(runE digI s (↑s_2.fst : Int).toNat) : Int) - (↑s_2.fst : Int))) + 1)).toNat) : Int) - IntKind.i64.wrap (IntKind.i64.wrap ((↑s_2.fst : Int) + IntKind.i64.wrap ((↑(runE digI s (↑s_2.fst : Int).toNat) : Int) - (↑s_2.fst : Int))) + 1))))) =
 s_5.snd.snd.fst ∧
 s_2.snd.snd.snd ++
 [(2,
 s.extract (↑s_2.fst : Int).toNat
 (IntKind.i64.wrap
 ((↑s_2.fst : Int) +
 IntKind.i64.wrap
 (IntKind.i64.wrap ((↑(runE digI s (↑s_2.fst : Int).toNat) : Int) - (↑s_2.fst : Int)) +
 IntKind.i64.wrap (1 + IntKind.i64.wrap ((↑(runE digI s (IntKind.i64.wrap (IntKind.i64.wrap ((↑s_2.fst : Int) + IntKind.i64.wrap ((↑(runE digI s (↑s_2.fst : Int).toNat) : Int) - (↑s_2.fst : Int))) + 1)).toNat) : Int) - IntKind.i64.wrap (IntKind.i64.wrap ((↑s_2.fst : Int) + IntKind.i64.wrap ((↑(runE digI s (↑s_2.fst : Int).toNat) : Int) - (↑s_2.fst : Int))) + 1)))))).toNat,
 s_2.snd.fst, s_2.snd.snd.fst)] =
 s_5.snd.snd.snd ∧
 True) ∧
 TI s s_5.fst s_5.snd.fst s_5.snd.snd.fst s_5.snd.snd.snd ∧ s.size - s_5.fst < s.size - s_2.fst)
 False)
 False)
 (bcase (decide (0 ≤ (↑s_2.fst : Int)) && (decide ((↑s_2.fst : Int) ≤ IntKind.i64.wrap ((↑s_2.fst : Int) + IntKind.i64.wrap ((↑(runE digI s (↑s_2.fst : Int).toNat) : Int) - (↑s_2.fst : Int)))) && decide (IntKind.i64.wrap ((↑s_2.fst : Int) + IntKind.i64.wrap ((↑(runE digI s (↑s_2.fst : Int).toNat) : Int) - (↑s_2.fst : Int))) ≤ (↑s.size : Int))))
 (s_2.snd.snd.snd.length = s_2.snd.snd.snd.length ∧
 bcase (capOk (s_2.snd.snd.snd.length + 1) 40)
 (∃ (s_5 : Nat × Int × Int × List Tok),
 (s = s ∧
 s_2.snd.snd.snd.length + 1 = s_5.snd.snd.snd.length ∧
 s_2.snd.snd.snd.length + 1 ≠ 0 ∧
 Int.ofNat 0 = 0 ∧
 Int.ofNat 0 = 0 ∧
 s = s ∧
 IntKind.i64.wrap ((↑s_2.fst : Int) + IntKind.i64.wrap ((↑(runE digI s (↑s_2.fst : Int).toNat) : Int) - (↑s_2.fst : Int))) = (↑s_5.fst : Int) ∧
 s_2.snd.fst = s_5.snd.fst ∧
 IntKind.i64.wrap (s_2.snd.snd.fst + IntKind.i64.wrap ((↑(runE digI s (↑s_2.fst : Int).toNat) : Int) - (↑s_2.fst : Int))) = s_5.snd.snd.fst ∧ s_2.snd.snd.snd ++ [(2, s.extract (↑s_2.fst : Int).toNat (IntKind.i64.wrap ((↑s_2.fst : Int) + IntKind.i64.wrap ((↑(runE digI s (↑s_2.fst : Int).toNat) : Int) - (↑s_2.fst : Int)))).toNat, s_2.snd.fst, s_2.snd.snd.fst)] = s_5.snd.snd.snd ∧ True) ∧
 TI s s_5.fst s_5.snd.fst s_5.snd.snd.fst s_5.snd.snd.snd ∧ s.size - s_5.fst < s.size - s_2.fst)
 False)
 False)) ∧
 ∃ (s_4 : Nat),
 (IntKind.i64.wrap (IntKind.i64.wrap ((↑s_2.fst : Int) + IntKind.i64.wrap ((↑(runE digI s (↑s_2.fst : Int).toNat) : Int) - (↑s_2.fst : Int))) + 1) = IntKind.i64.wrap (IntKind.i64.wrap ((↑s_2.fst : Int) + IntKind.i64.wrap ((↑(runE digI s (↑s_2.fst : Int).toNat) : Int) - (↑s_2.fst : Int))) + 1) ∧
 Value.func (Fn.func 24) #[] #[] = Value.func (Fn.func 24) #[] #[] ∧
 IntKind.i64.wrap (IntKind.i64.wrap ((↑s_2.fst : Int) + IntKind.i64.wrap ((↑(runE digI s (↑s_2.fst : Int).toNat) : Int) - (↑s_2.fst : Int))) + 1) = (↑s_4 : Int) ∧ Int.ofNat 0 = 0 ∧ Int.ofNat 0 = 0 ∧ s = s ∧ (↑s_2.fst : Int) = (↑s_2.fst : Int) ∧ s_2.snd.fst = s_2.snd.fst ∧ s_2.snd.snd.fst = s_2.snd.snd.fst ∧ s_2.snd.snd.snd = s_2.snd.snd.snd ∧ True) ∧
 RunI digI s (IntKind.i64.wrap (IntKind.i64.wrap ((↑s_2.fst : Int) + IntKind.i64.wrap ((↑(runE digI s (↑s_2.fst : Int).toNat) : Int) - (↑s_2.fst : Int))) + 1)).toNat s_4 ∧
 ∀ (s_5 : Nat),
 RunI digI s (IntKind.i64.wrap (IntKind.i64.wrap ((↑s_2.fst : Int) + IntKind.i64.wrap ((↑(runE digI s (↑s_2.fst : Int).toNat) : Int) - (↑s_2.fst : Int))) + 1)).toNat s_5 →
 bcase (decide ((↑s_5 : Int) < (↑s.size : Int)))
 (bcase (inB (↑s_5 : Int) s.size)
 (True ∧
 bcase (digI (↑(s.get! (↑s_5 : Int).toNat).toNat : Int))
 (∃ (s_6 : Nat),
 (IntKind.i64.wrap (IntKind.i64.wrap ((↑s_2.fst : Int) + IntKind.i64.wrap ((↑(runE digI s (↑s_2.fst : Int).toNat) : Int) - (↑s_2.fst : Int))) + 1) = IntKind.i64.wrap (IntKind.i64.wrap ((↑s_2.fst : Int) + IntKind.i64.wrap ((↑(runE digI s (↑s_2.fst : Int).toNat) : Int) - (↑s_2.fst : Int))) + 1) ∧
 Value.func (Fn.func 24) #[] #[] = Value.func (Fn.func 24) #[] #[] ∧ IntKind.i64.wrap ((↑s_5 : Int) + 1) = (↑s_6 : Int) ∧ Int.ofNat 0 = 0 ∧ Int.ofNat 0 = 0 ∧ s = s ∧ (↑s_2.fst : Int) = (↑s_2.fst : Int) ∧ s_2.snd.fst = s_2.snd.fst ∧ s_2.snd.snd.fst = s_2.snd.snd.fst ∧ s_2.snd.snd.snd = s_2.snd.snd.snd ∧ True) ∧
 RunI digI s (IntKind.i64.wrap (IntKind.i64.wrap ((↑s_2.fst : Int) + IntKind.i64.wrap ((↑(runE digI s (↑s_2.fst : Int).toNat) : Int) - (↑s_2.fst : Int))) + 1)).toNat s_6 ∧ s.size - s_6 < s.size - s_5)
 (∃ (s_6 : Nat),
 (IntKind.i64.wrap (IntKind.i64.wrap ((↑s_2.fst : Int) + IntKind.i64.wrap ((↑(runE digI s (↑s_2.fst : Int).toNat) : Int) - (↑s_2.fst : Int))) + 1) = IntKind.i64.wrap (IntKind.i64.wrap ((↑s_2.fst : Int) + IntKind.i64.wrap ((↑(runE digI s (↑s_2.fst : Int).toNat) : Int) - (↑s_2.fst : Int))) + 1) ∧
 Value.func (Fn.func 24) #[] #[] = Value.func (Fn.func 24) #[] #[] ∧
 (↑s_5 : Int) = (↑(runE digI s (IntKind.i64.wrap (IntKind.i64.wrap ((↑s_2.fst : Int) + IntKind.i64.wrap ((↑(runE digI s (↑s_2.fst : Int).toNat) : Int) - (↑s_2.fst : Int))) + 1)).toNat) : Int) ∧ Int.ofNat 0 = 0 ∧ Int.ofNat 0 = 0 ∧ s = s ∧ (↑s_2.fst : Int) = (↑s_2.fst : Int) ∧ s_2.snd.fst = s_2.snd.fst ∧ s_2.snd.snd.fst = s_2.snd.snd.fst ∧ s_2.snd.snd.snd = s_2.snd.snd.snd ∧ True) ∧
 True))
 False)
 (∃ (s_6 : Nat),
 (IntKind.i64.wrap (IntKind.i64.wrap ((↑s_2.fst : Int) + IntKind.i64.wrap ((↑(runE digI s (↑s_2.fst : Int).toNat) : Int) - (↑s_2.fst : Int))) + 1) = IntKind.i64.wrap (IntKind.i64.wrap ((↑s_2.fst : Int) + IntKind.i64.wrap ((↑(runE digI s (↑s_2.fst : Int).toNat) : Int) - (↑s_2.fst : Int))) + 1) ∧
 Value.func (Fn.func 24) #[] #[] = Value.func (Fn.func 24) #[] #[] ∧
 (↑s_5 : Int) = (↑(runE digI s (IntKind.i64.wrap (IntKind.i64.wrap ((↑s_2.fst : Int) + IntKind.i64.wrap ((↑(runE digI s (↑s_2.fst : Int).toNat) : Int) - (↑s_2.fst : Int))) + 1)).toNat) : Int) ∧ Int.ofNat 0 = 0 ∧ Int.ofNat 0 = 0 ∧ s = s ∧ (↑s_2.fst : Int) = (↑s_2.fst : Int) ∧ s_2.snd.fst = s_2.snd.fst ∧ s_2.snd.snd.fst = s_2.snd.snd.fst ∧ s_2.snd.snd.snd = s_2.snd.snd.snd ∧ True) ∧
 True))
 (bcase (decide (0 ≤ (↑s_2.fst : Int)) && (decide ((↑s_2.fst : Int) ≤ IntKind.i64.wrap ((↑s_2.fst : Int) + IntKind.i64.wrap ((↑(runE digI s (↑s_2.fst : Int).toNat) : Int) - (↑s_2.fst : Int)))) && decide (IntKind.i64.wrap ((↑s_2.fst : Int) + IntKind.i64.wrap ((↑(runE digI s (↑s_2.fst : Int).toNat) : Int) - (↑s_2.fst : Int))) ≤ (↑s.size : Int))))
 (s_2.snd.snd.snd.length = s_2.snd.snd.snd.length ∧
 bcase (capOk (s_2.snd.snd.snd.length + 1) 40)
 (∃ (s_4 : Nat × Int × Int × List Tok),
 (s = s ∧
 s_2.snd.snd.snd.length + 1 = s_4.snd.snd.snd.length ∧
 s_2.snd.snd.snd.length + 1 ≠ 0 ∧
 Int.ofNat 0 = 0 ∧
 Int.ofNat 0 = 0 ∧
 s = s ∧
 IntKind.i64.wrap ((↑s_2.fst : Int) + IntKind.i64.wrap ((↑(runE digI s (↑s_2.fst : Int).toNat) : Int) - (↑s_2.fst : Int))) = (↑s_4.fst : Int) ∧
 s_2.snd.fst = s_4.snd.fst ∧
 IntKind.i64.wrap (s_2.snd.snd.fst + IntKind.i64.wrap ((↑(runE digI s (↑s_2.fst : Int).toNat) : Int) - (↑s_2.fst : Int))) = s_4.snd.snd.fst ∧ s_2.snd.snd.snd ++ [(2, s.extract (↑s_2.fst : Int).toNat (IntKind.i64.wrap ((↑s_2.fst : Int) + IntKind.i64.wrap ((↑(runE digI s (↑s_2.fst : Int).toNat) : Int) - (↑s_2.fst : Int)))).toNat, s_2.snd.fst, s_2.snd.snd.fst)] = s_4.snd.snd.snd ∧ True) ∧
 TI s s_4.fst s_4.snd.fst s_4.snd.snd.fst s_4.snd.snd.snd ∧ s.size - s_4.fst < s.size - s_2.fst)
 False)
 False))
 False)
 (bcase (decide (0 ≤ (↑s_2.fst : Int)) && (decide ((↑s_2.fst : Int) ≤ IntKind.i64.wrap ((↑s_2.fst : Int) + IntKind.i64.wrap ((↑(runE digI s (↑s_2.fst : Int).toNat) : Int) - (↑s_2.fst : Int)))) && decide (IntKind.i64.wrap ((↑s_2.fst : Int) + IntKind.i64.wrap ((↑(runE digI s (↑s_2.fst : Int).toNat) : Int) - (↑s_2.fst : Int))) ≤ (↑s.size : Int))))
 (s_2.snd.snd.snd.length = s_2.snd.snd.snd.length ∧
 bcase (capOk (s_2.snd.snd.snd.length + 1) 40)
 (∃ (s_4 : Nat × Int × Int × List Tok),
 (s = s ∧
 s_2.snd.snd.snd.length + 1 = s_4.snd.snd.snd.length ∧
 s_2.snd.snd.snd.length + 1 ≠ 0 ∧
 Int.ofNat 0 = 0 ∧
 Int.ofNat 0 = 0 ∧
 s = s ∧
 IntKind.i64.wrap ((↑s_2.fst : Int) + IntKind.i64.wrap ((↑(runE digI s (↑s_2.fst : Int).toNat) : Int) - (↑s_2.fst : Int))) = (↑s_4.fst : Int) ∧
 s_2.snd.fst = s_4.snd.fst ∧
 IntKind.i64.wrap (s_2.snd.snd.fst + IntKind.i64.wrap ((↑(runE digI s (↑s_2.fst : Int).toNat) : Int) - (↑s_2.fst : Int))) = s_4.snd.snd.fst ∧ s_2.snd.snd.snd ++ [(2, s.extract (↑s_2.fst : Int).toNat (IntKind.i64.wrap ((↑s_2.fst : Int) + IntKind.i64.wrap ((↑(runE digI s (↑s_2.fst : Int).toNat) : Int) - (↑s_2.fst : Int)))).toNat, s_2.snd.fst, s_2.snd.snd.fst)] = s_4.snd.snd.snd ∧ True) ∧
 TI s s_4.fst s_4.snd.fst s_4.snd.snd.fst s_4.snd.snd.snd ∧ s.size - s_4.fst < s.size - s_2.fst)
 False)
 False)) ∧
 ∃ (s_3 : Nat),
 ((↑s_2.fst : Int) = (↑s_2.fst : Int) ∧ Value.func (Fn.func 24) #[] #[] = Value.func (Fn.func 24) #[] #[] ∧ (↑s_2.fst : Int) = (↑s_3 : Int) ∧ Int.ofNat 0 = 0 ∧ Int.ofNat 0 = 0 ∧ s = s ∧ (↑s_2.fst : Int) = (↑s_2.fst : Int) ∧ s_2.snd.fst = s_2.snd.fst ∧ s_2.snd.snd.fst = s_2.snd.snd.fst ∧ s_2.snd.snd.snd = s_2.snd.snd.snd ∧ True) ∧
 RunI digI s (↑s_2.fst : Int).toNat s_3 ∧
 ∀ (s_4 : Nat),
 RunI digI s (↑s_2.fst : Int).toNat s_4 →
 bcase (decide ((↑s_4 : Int) < (↑s.size : Int)))
 (bcase (inB (↑s_4 : Int) s.size)
 (True ∧
 bcase (digI (↑(s.get! (↑s_4 : Int).toNat).toNat : Int))
 (∃ (s_5 : Nat),
 ((↑s_2.fst : Int) = (↑s_2.fst : Int) ∧ Value.func (Fn.func 24) #[] #[] = Value.func (Fn.func 24) #[] #[] ∧ IntKind.i64.wrap ((↑s_4 : Int) + 1) = (↑s_5 : Int) ∧ Int.ofNat 0 = 0 ∧ Int.ofNat 0 = 0 ∧ s = s ∧ (↑s_2.fst : Int) = (↑s_2.fst : Int) ∧ s_2.snd.fst = s_2.snd.fst ∧ s_2.snd.snd.fst = s_2.snd.snd.fst ∧ s_2.snd.snd.snd = s_2.snd.snd.snd ∧ True) ∧
 RunI digI s (↑s_2.fst : Int).toNat s_5 ∧ s.size - s_5 < s.size - s_4)
 (∃ (s_5 : Nat), ((↑s_2.fst : Int) = (↑s_2.fst : Int) ∧ Value.func (Fn.func 24) #[] #[] = Value.func (Fn.func 24) #[] #[] ∧ (↑s_4 : Int) = (↑(runE digI s (↑s_2.fst : Int).toNat) : Int) ∧ Int.ofNat 0 = 0 ∧ Int.ofNat 0 = 0 ∧ s = s ∧ (↑s_2.fst : Int) = (↑s_2.fst : Int) ∧ s_2.snd.fst = s_2.snd.fst ∧ s_2.snd.snd.fst = s_2.snd.snd.fst ∧ s_2.snd.snd.snd = s_2.snd.snd.snd ∧ True) ∧ True))
 False)
 (∃ (s_5 : Nat), ((↑s_2.fst : Int) = (↑s_2.fst : Int) ∧ Value.func (Fn.func 24) #[] #[] = Value.func (Fn.func 24) #[] #[] ∧ (↑s_4 : Int) = (↑(runE digI s (↑s_2.fst : Int).toNat) : Int) ∧ Int.ofNat 0 = 0 ∧ Int.ofNat 0 = 0 ∧ s = s ∧ (↑s_2.fst : Int) = (↑s_2.fst : Int) ∧ s_2.snd.fst = s_2.snd.fst ∧ s_2.snd.snd.fst = s_2.snd.snd.fst ∧ s_2.snd.snd.snd = s_2.snd.snd.snd ∧ True) ∧ True))
 (IsSym (ByteArray.mk #[45, 43, 58, 44, 59, 47, 61, 40, 41, 60, 62, 42, 64, 63]) ∧
 bcase (decide (symIx (↑(s.get! (↑s_2.fst : Int).toNat).toNat : Int) ≥ 0))
 (bcase (decide (0 ≤ (↑s_2.fst : Int)) && (decide ((↑s_2.fst : Int) ≤ IntKind.i64.wrap ((↑s_2.fst : Int) + 1)) && decide (IntKind.i64.wrap ((↑s_2.fst : Int) + 1) ≤ (↑s.size : Int))))
 (s_2.snd.snd.snd.length = s_2.snd.snd.snd.length ∧
 bcase (capOk (s_2.snd.snd.snd.length + 1) 40)
 (∃ (s_3 : Nat × Int × Int × List Tok),
 (s = s ∧
 s_2.snd.snd.snd.length + 1 = s_3.snd.snd.snd.length ∧
 s_2.snd.snd.snd.length + 1 ≠ 0 ∧ Int.ofNat 0 = 0 ∧ Int.ofNat 0 = 0 ∧ s = s ∧ IntKind.i64.wrap ((↑s_2.fst : Int) + 1) = (↑s_3.fst : Int) ∧ s_2.snd.fst = s_3.snd.fst ∧ IntKind.i64.wrap (s_2.snd.snd.fst + 1) = s_3.snd.snd.fst ∧ s_2.snd.snd.snd ++ [(3, s.extract (↑s_2.fst : Int).toNat (IntKind.i64.wrap ((↑s_2.fst : Int) + 1)).toNat, s_2.snd.fst, s_2.snd.snd.fst)] = s_3.snd.snd.snd ∧ True) ∧
 TI s s_3.fst s_3.snd.fst s_3.snd.snd.fst s_3.snd.snd.snd ∧ s.size - s_3.fst < s.size - s_2.fst)
 False)
 False)
 ([] = tokL s ∧ Value.int IntKind.i64 s_2.snd.fst = Value.int IntKind.i64 (tokLine s) ∧ Value.int IntKind.i64 s_2.snd.snd.fst = Value.int IntKind.i64 (tokCol s) ∧ Value.int IntKind.i64 7 = Value.int IntKind.i64 (tokErr s) ∧ True))))))))
 False)
 (s_2.snd.snd.snd.length = s_2.snd.snd.snd.length ∧
 bcase (capOk (s_2.snd.snd.snd.length + 1) 40)
 (s_2.snd.snd.snd.length + 1 = (s_2.snd.snd.snd ++ [(5, ByteArray.mk #[], s_2.snd.fst, s_2.snd.snd.fst)]).length ∧ s_2.snd.snd.snd ++ [(5, ByteArray.mk #[], s_2.snd.fst, s_2.snd.snd.fst)] = tokL s ∧ Value.int IntKind.i64 0 = Value.int IntKind.i64 (tokLine s) ∧ Value.int IntKind.i64 0 = Value.int IntKind.i64 (tokCol s) ∧ Value.int IntKind.i64 0 = Value.int IntKind.i64 (tokErr s) ∧ True) False))) := by kernel_rfl
end Go.Proofs.YtobmbbmompoliaaDoor
