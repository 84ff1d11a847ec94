/- What the reference's reading of texts of angles asks. -/
import Derived.Test.YtkcelhhhbbpbpaaDoorParS
namespace Go.Proofs.YtkcelhhhbbpbpaaDoor
open Go Go.Abs Go.RowKit
set_option linter.unusedVariables false
set_option linter.unusedSimpArgs false
theorem vc_r5parse (s : ByteArray) (l q : List UInt8) (K : Value → Prop) : callsX Tryd.prog ([]) (ARs l q) 38 [.string s] K = (
 bcase (decide ((↑s.size : Int) > 0))
 (bcase (inB 0 s.size)
 (bcase ((↑(s.get! 0).toNat : Int) == 45)
 ((∀ (s_1 : Int × Int),
 RJ l 1 s_1.fst s_1.snd →
 bcase (s_1.fst == 1) (K (Value.tuple #[Value.int IntKind.i64 0, Value.int IntKind.i64 7]))
 (bcase (decide (IntKind.i64.wrap (s_1.fst - 1) > 1))
 (bcase (inB 1 s.size)
 (bcase ((↑(s.get! 1).toNat : Int) == 48) (K (Value.tuple #[Value.int IntKind.i64 0, Value.int IntKind.i64 7]))
 (bcase (decide ((↑s.size : Int) < IntKind.i64.wrap (s_1.fst + 3))) (K (Value.tuple #[Value.int IntKind.i64 0, Value.int IntKind.i64 7]))
 (bcase (inB s_1.fst s.size)
 (bcase ((↑(s.get! s_1.fst.toNat).toNat : Int) != 45) (K (Value.tuple #[Value.int IntKind.i64 0, Value.int IntKind.i64 7]))
 (bcase (inB (IntKind.i64.wrap (s_1.fst + 1)) s.size)
 (bcase (decide ((↑(s.get! (IntKind.i64.wrap (s_1.fst + 1)).toNat).toNat : Int) ≥ 48))
 (bcase (!decide ((↑(s.get! (IntKind.i64.wrap (s_1.fst + 1)).toNat).toNat : Int) ≤ 57)) (K (Value.tuple #[Value.int IntKind.i64 0, Value.int IntKind.i64 7]))
 (bcase (inB (IntKind.i64.wrap (s_1.fst + 2)) s.size)
 (bcase (decide ((↑(s.get! (IntKind.i64.wrap (s_1.fst + 2)).toNat).toNat : Int) ≥ 48))
 (bcase (!decide ((↑(s.get! (IntKind.i64.wrap (s_1.fst + 2)).toNat).toNat : Int) ≤ 57)) (K (Value.tuple #[Value.int IntKind.i64 0, Value.int IntKind.i64 7]))
 (bcase (inB (IntKind.i64.wrap (s_1.fst + 1)) s.size)
 (bcase (decide ((↑(s.get! (IntKind.i64.wrap (s_1.fst + 1)).toNat).toNat : Int) > 53)) (K (Value.tuple #[Value.int IntKind.i64 0, Value.int IntKind.i64 7]))
 (bcase (inB (IntKind.i64.wrap (s_1.fst + 1)) s.size)
 (bcase (inB (IntKind.i64.wrap (s_1.fst + 2)) s.size)
 (bcase (decide (IntKind.i64.wrap (s_1.fst + 3) < (↑s.size : Int)))
 (bcase (inB (IntKind.i64.wrap (s_1.fst + 3)) s.size)
 (bcase ((↑(s.get! (IntKind.i64.wrap (s_1.fst + 3)).toNat).toNat : Int) != 46) (K (Value.tuple #[Value.int IntKind.i64 0, Value.int IntKind.i64 7]))
 (bcase ((↑s.size : Int) == IntKind.i64.wrap (IntKind.i64.wrap (s_1.fst + 3) + 1)) (K (Value.tuple #[Value.int IntKind.i64 0, Value.int IntKind.i64 7]))
 (bcase (decide ((↑s.size : Int) > IntKind.i64.wrap (IntKind.i64.wrap (s_1.fst + 3) + 4))) (K (Value.tuple #[Value.int IntKind.i64 0, Value.int IntKind.i64 7]))
 (∃ (s_2 : Nat),
 (s = s ∧
 Int.ofNat 0 = 0 ∧
 Int.ofNat 0 = 0 ∧
 Int.ofNat 7 = 7 ∧
 IntKind.i64.wrap (IntKind.i64.wrap (s_1.fst + 3) + 1) = IntKind.i64.wrap (IntKind.i64.wrap (s_1.fst + 3) + 1) + (↑s_2 : Int) ∧
 Int.ofNat 1 = 1 ∧
 s_1.snd = s_1.snd ∧
 IntKind.i64.wrap (IntKind.i64.wrap (10 * IntKind.i64.wrap (IntKind.u8.wrap ((↑(s.get! (IntKind.i64.wrap (s_1.fst + 1)).toNat).toNat : Int) - 48))) + IntKind.i64.wrap (IntKind.u8.wrap ((↑(s.get! (IntKind.i64.wrap (s_1.fst + 2)).toNat).toNat : Int) - 48))) =
 IntKind.i64.wrap (IntKind.i64.wrap (10 * IntKind.i64.wrap (IntKind.u8.wrap ((↑(s.get! (IntKind.i64.wrap (s_1.fst + 1)).toNat).toNat : Int) - 48))) + IntKind.i64.wrap (IntKind.u8.wrap ((↑(s.get! (IntKind.i64.wrap (s_1.fst + 2)).toNat).toNat : Int) - 48))) ∧
 0 = frI q s_2 ∧ 100 = unI s_2 ∧ True) ∧
 AllDg q s_2 ∧
 ∀ (s_3 : Nat),
 AllDg q s_3 →
 bcase (decide (IntKind.i64.wrap (IntKind.i64.wrap (s_1.fst + 3) + 1) + (↑s_3 : Int) < (↑s.size : Int)))
 (bcase (inB (IntKind.i64.wrap (IntKind.i64.wrap (s_1.fst + 3) + 1) + (↑s_3 : Int)) s.size)
 (bcase (decide ((↑(s.get! (IntKind.i64.wrap (IntKind.i64.wrap (s_1.fst + 3) + 1) + (↑s_3 : Int)).toNat).toNat : Int) ≥ 48))
 (bcase (!decide ((↑(s.get! (IntKind.i64.wrap (IntKind.i64.wrap (s_1.fst + 3) + 1) + (↑s_3 : Int)).toNat).toNat : Int) ≤ 57)) (K (Value.tuple #[Value.int IntKind.i64 0, Value.int IntKind.i64 7]))
 (bcase (inB (IntKind.i64.wrap (IntKind.i64.wrap (s_1.fst + 3) + 1) + (↑s_3 : Int)) s.size)
 (∃ (s_4 : Nat),
 (s = s ∧
 Int.ofNat 0 = 0 ∧
 Int.ofNat 0 = 0 ∧
 Int.ofNat 7 = 7 ∧
 IntKind.i64.wrap (IntKind.i64.wrap (IntKind.i64.wrap (s_1.fst + 3) + 1) + (↑s_3 : Int) + 1) = IntKind.i64.wrap (IntKind.i64.wrap (s_1.fst + 3) + 1) + (↑s_4 : Int) ∧
 Int.ofNat 1 = 1 ∧
 s_1.snd = s_1.snd ∧
 IntKind.i64.wrap (IntKind.i64.wrap (10 * IntKind.i64.wrap (IntKind.u8.wrap ((↑(s.get! (IntKind.i64.wrap (s_1.fst + 1)).toNat).toNat : Int) - 48))) + IntKind.i64.wrap (IntKind.u8.wrap ((↑(s.get! (IntKind.i64.wrap (s_1.fst + 2)).toNat).toNat : Int) - 48))) =
 IntKind.i64.wrap (IntKind.i64.wrap (10 * IntKind.i64.wrap (IntKind.u8.wrap ((↑(s.get! (IntKind.i64.wrap (s_1.fst + 1)).toNat).toNat : Int) - 48))) + IntKind.i64.wrap (IntKind.u8.wrap ((↑(s.get! (IntKind.i64.wrap (s_1.fst + 2)).toNat).toNat : Int) - 48))) ∧
 IntKind.i64.wrap (frI q s_3 + IntKind.i64.wrap (unI s_3 * IntKind.i64.wrap (IntKind.u8.wrap ((↑(s.get! (IntKind.i64.wrap (IntKind.i64.wrap (s_1.fst + 3) + 1) + (↑s_3 : Int)).toNat).toNat : Int) - 48)))) = frI q s_4 ∧ IntKind.i64.wrap ((unI s_3).tdiv 10) = unI s_4 ∧ True) ∧
 AllDg q s_4 ∧ q.length - s_4 < q.length - s_3)
 False))
 (K (Value.tuple #[Value.int IntKind.i64 0, Value.int IntKind.i64 7])))
 False)
 (bcase (decide (s_1.snd > 18325193)) (K (Value.tuple #[Value.int IntKind.i64 0, Value.int IntKind.i64 5]))
 (bcase
 (decide (IntKind.i64.wrap (IntKind.i64.wrap (IntKind.i64.wrap (s_1.snd * 60000) + IntKind.i64.wrap (IntKind.i64.wrap (IntKind.i64.wrap (10 * IntKind.i64.wrap (IntKind.u8.wrap ((↑(s.get! (IntKind.i64.wrap (s_1.fst + 1)).toNat).toNat : Int) - 48))) + IntKind.i64.wrap (IntKind.u8.wrap ((↑(s.get! (IntKind.i64.wrap (s_1.fst + 2)).toNat).toNat : Int) - 48))) * 1000)) + frI q s_3) > 1099511627776))
 (K (Value.tuple #[Value.int IntKind.i64 0, Value.int IntKind.i64 5]))
 (K
 (Value.tuple
 #[Value.int IntKind.i64
 (IntKind.i64.wrap (0 - IntKind.i64.wrap (IntKind.i64.wrap (IntKind.i64.wrap (s_1.snd * 60000) + IntKind.i64.wrap (IntKind.i64.wrap (IntKind.i64.wrap (10 * IntKind.i64.wrap (IntKind.u8.wrap ((↑(s.get! (IntKind.i64.wrap (s_1.fst + 1)).toNat).toNat : Int) - 48))) + IntKind.i64.wrap (IntKind.u8.wrap ((↑(s.get! (IntKind.i64.wrap (s_1.fst + 2)).toNat).toNat : Int) - 48))) * 1000)) + frI q s_3))),
 Value.int IntKind.i64 0]))))))))
 False)
 (bcase (decide (s_1.snd > 18325193)) (K (Value.tuple #[Value.int IntKind.i64 0, Value.int IntKind.i64 5]))
 (bcase (decide (IntKind.i64.wrap (IntKind.i64.wrap (IntKind.i64.wrap (s_1.snd * 60000) + IntKind.i64.wrap (IntKind.i64.wrap (IntKind.i64.wrap (10 * IntKind.i64.wrap (IntKind.u8.wrap ((↑(s.get! (IntKind.i64.wrap (s_1.fst + 1)).toNat).toNat : Int) - 48))) + IntKind.i64.wrap (IntKind.u8.wrap ((↑(s.get! (IntKind.i64.wrap (s_1.fst + 2)).toNat).toNat : Int) - 48))) * 1000)) + 0) > 1099511627776))
 (K (Value.tuple #[Value.int IntKind.i64 0, Value.int IntKind.i64 5]))
 (K
 (Value.tuple
 #[Value.int IntKind.i64
 (IntKind.i64.wrap (0 - IntKind.i64.wrap (IntKind.i64.wrap (IntKind.i64.wrap (s_1.snd * 60000) + IntKind.i64.wrap (IntKind.i64.wrap (IntKind.i64.wrap (10 * IntKind.i64.wrap (IntKind.u8.wrap ((↑(s.get! (IntKind.i64.wrap (s_1.fst + 1)).toNat).toNat : Int) - 48))) + IntKind.i64.wrap (IntKind.u8.wrap ((↑(s.get! (IntKind.i64.wrap (s_1.fst + 2)).toNat).toNat : Int) - 48))) * 1000)) + 0))),
 Value.int IntKind.i64 0])))))
 False)
 False))
 False))
 (K (Value.tuple #[Value.int IntKind.i64 0, Value.int IntKind.i64 7])))
 False))
 (K (Value.tuple #[Value.int IntKind.i64 0, Value.int IntKind.i64 7])))
 False))
 False)))
 False)
 (bcase (decide ((↑s.size : Int) < IntKind.i64.wrap (s_1.fst + 3))) (K (Value.tuple #[Value.int IntKind.i64 0, Value.int IntKind.i64 7]))
 (bcase (inB s_1.fst s.size)
 (bcase ((↑(s.get! s_1.fst.toNat).toNat : Int) != 45) (K (Value.tuple #[Value.int IntKind.i64 0, Value.int IntKind.i64 7]))
 (bcase (inB (IntKind.i64.wrap (s_1.fst + 1)) s.size)
 (bcase (decide ((↑(s.get! (IntKind.i64.wrap (s_1.fst + 1)).toNat).toNat : Int) ≥ 48))
 (bcase (!decide ((↑(s.get! (IntKind.i64.wrap (s_1.fst + 1)).toNat).toNat : Int) ≤ 57)) (K (Value.tuple #[Value.int IntKind.i64 0, Value.int IntKind.i64 7]))
 (bcase (inB (IntKind.i64.wrap (s_1.fst + 2)) s.size)
 (bcase (decide ((↑(s.get! (IntKind.i64.wrap (s_1.fst + 2)).toNat).toNat : Int) ≥ 48))
 (bcase (!decide ((↑(s.get! (IntKind.i64.wrap (s_1.fst + 2)).toNat).toNat : Int) ≤ 57)) (K (Value.tuple #[Value.int IntKind.i64 0, Value.int IntKind.i64 7]))
 (bcase (inB (IntKind.i64.wrap (s_1.fst + 1)) s.size)
 (bcase (decide ((↑(s.get! (IntKind.i64.wrap (s_1.fst + 1)).toNat).toNat : Int) > 53)) (K (Value.tuple #[Value.int IntKind.i64 0, Value.int IntKind.i64 7]))
 (bcase (inB (IntKind.i64.wrap (s_1.fst + 1)) s.size)
 (bcase (inB (IntKind.i64.wrap (s_1.fst + 2)) s.size)
 (bcase (decide (IntKind.i64.wrap (s_1.fst + 3) < (↑s.size : Int)))
 (bcase (inB (IntKind.i64.wrap (s_1.fst + 3)) s.size)
 (bcase ((↑(s.get! (IntKind.i64.wrap (s_1.fst + 3)).toNat).toNat : Int) != 46) (K (Value.tuple #[Value.int IntKind.i64 0, Value.int IntKind.i64 7]))
 (bcase ((↑s.size : Int) == IntKind.i64.wrap (IntKind.i64.wrap (s_1.fst + 3) + 1)) (K (Value.tuple #[Value.int IntKind.i64 0, Value.int IntKind.i64 7]))
 (bcase (decide ((↑s.size : Int) > IntKind.i64.wrap (IntKind.i64.wrap (s_1.fst + 3) + 4))) (K (Value.tuple #[Value.int IntKind.i64 0, Value.int IntKind.i64 7]))
 (∃ (s_2 : Nat),
 (s = s ∧
 Int.ofNat 0 = 0 ∧
 Int.ofNat 0 = 0 ∧
 Int.ofNat 7 = 7 ∧
 IntKind.i64.wrap (IntKind.i64.wrap (s_1.fst + 3) + 1) = IntKind.i64.wrap (IntKind.i64.wrap (s_1.fst + 3) + 1) + (↑s_2 : Int) ∧
 Int.ofNat 1 = 1 ∧
 s_1.snd = s_1.snd ∧
 IntKind.i64.wrap (IntKind.i64.wrap (10 * IntKind.i64.wrap (IntKind.u8.wrap ((↑(s.get! (IntKind.i64.wrap (s_1.fst + 1)).toNat).toNat : Int) - 48))) + IntKind.i64.wrap (IntKind.u8.wrap ((↑(s.get! (IntKind.i64.wrap (s_1.fst + 2)).toNat).toNat : Int) - 48))) =
 IntKind.i64.wrap (IntKind.i64.wrap (10 * IntKind.i64.wrap (IntKind.u8.wrap ((↑(s.get! (IntKind.i64.wrap (s_1.fst + 1)).toNat).toNat : Int) - 48))) + IntKind.i64.wrap (IntKind.u8.wrap ((↑(s.get! (IntKind.i64.wrap (s_1.fst + 2)).toNat).toNat : Int) - 48))) ∧
 0 = frI q s_2 ∧ 100 = unI s_2 ∧ True) ∧
 AllDg q s_2 ∧
 ∀ (s_3 : Nat),
 AllDg q s_3 →
 bcase (decide (IntKind.i64.wrap (IntKind.i64.wrap (s_1.fst + 3) + 1) + (↑s_3 : Int) < (↑s.size : Int)))
 (bcase (inB (IntKind.i64.wrap (IntKind.i64.wrap (s_1.fst + 3) + 1) + (↑s_3 : Int)) s.size)
 (bcase (decide ((↑(s.get! (IntKind.i64.wrap (IntKind.i64.wrap (s_1.fst + 3) + 1) + (↑s_3 : Int)).toNat).toNat : Int) ≥ 48))
 (bcase (!decide ((↑(s.get! (IntKind.i64.wrap (IntKind.i64.wrap (s_1.fst + 3) + 1) + (↑s_3 : Int)).toNat).toNat : Int) ≤ 57)) (K (Value.tuple #[Value.int IntKind.i64 0, Value.int IntKind.i64 7]))
 (bcase (inB (IntKind.i64.wrap (IntKind.i64.wrap (s_1.fst + 3) + 1) + (↑s_3 : Int)) s.size)
 (∃ (s_4 : Nat),
 (s = s ∧
 Int.ofNat 0 = 0 ∧
 Int.ofNat 0 = 0 ∧
 Int.ofNat 7 = 7 ∧
 IntKind.i64.wrap (IntKind.i64.wrap (IntKind.i64.wrap (s_1.fst + 3) + 1) + (↑s_3 : Int) + 1) = IntKind.i64.wrap (IntKind.i64.wrap (s_1.fst + 3) + 1) + (↑s_4 : Int) ∧
 Int.ofNat 1 = 1 ∧
 s_1.snd = s_1.snd ∧
 IntKind.i64.wrap (IntKind.i64.wrap (10 * IntKind.i64.wrap (IntKind.u8.wrap ((↑(s.get! (IntKind.i64.wrap (s_1.fst + 1)).toNat).toNat : Int) - 48))) + IntKind.i64.wrap (IntKind.u8.wrap ((↑(s.get! (IntKind.i64.wrap (s_1.fst + 2)).toNat).toNat : Int) - 48))) =
 IntKind.i64.wrap (IntKind.i64.wrap (10 * IntKind.i64.wrap (IntKind.u8.wrap ((↑(s.get! (IntKind.i64.wrap (s_1.fst + 1)).toNat).toNat : Int) - 48))) + IntKind.i64.wrap (IntKind.u8.wrap ((↑(s.get! (IntKind.i64.wrap (s_1.fst + 2)).toNat).toNat : Int) - 48))) ∧
 IntKind.i64.wrap (frI q s_3 + IntKind.i64.wrap (unI s_3 * IntKind.i64.wrap (IntKind.u8.wrap ((↑(s.get! (IntKind.i64.wrap (IntKind.i64.wrap (s_1.fst + 3) + 1) + (↑s_3 : Int)).toNat).toNat : Int) - 48)))) = frI q s_4 ∧ IntKind.i64.wrap ((unI s_3).tdiv 10) = unI s_4 ∧ True) ∧
 AllDg q s_4 ∧ q.length - s_4 < q.length - s_3)
 False))
 (K (Value.tuple #[Value.int IntKind.i64 0, Value.int IntKind.i64 7])))
 False)
 (bcase (decide (s_1.snd > 18325193)) (K (Value.tuple #[Value.int IntKind.i64 0, Value.int IntKind.i64 5]))
 (bcase
 (decide (IntKind.i64.wrap (IntKind.i64.wrap (IntKind.i64.wrap (s_1.snd * 60000) + IntKind.i64.wrap (IntKind.i64.wrap (IntKind.i64.wrap (10 * IntKind.i64.wrap (IntKind.u8.wrap ((↑(s.get! (IntKind.i64.wrap (s_1.fst + 1)).toNat).toNat : Int) - 48))) + IntKind.i64.wrap (IntKind.u8.wrap ((↑(s.get! (IntKind.i64.wrap (s_1.fst + 2)).toNat).toNat : Int) - 48))) * 1000)) + frI q s_3) > 1099511627776))
 (K (Value.tuple #[Value.int IntKind.i64 0, Value.int IntKind.i64 5]))
 (K
 (Value.tuple
 #[Value.int IntKind.i64
 (IntKind.i64.wrap (0 - IntKind.i64.wrap (IntKind.i64.wrap (IntKind.i64.wrap (s_1.snd * 60000) + IntKind.i64.wrap (IntKind.i64.wrap (IntKind.i64.wrap (10 * IntKind.i64.wrap (IntKind.u8.wrap ((↑(s.get! (IntKind.i64.wrap (s_1.fst + 1)).toNat).toNat : Int) - 48))) + IntKind.i64.wrap (IntKind.u8.wrap ((↑(s.get! (IntKind.i64.wrap (s_1.fst + 2)).toNat).toNat : Int) - 48))) * 1000)) + frI q s_3))),
 Value.int IntKind.i64 0]))))))))
 False)
 (bcase (decide (s_1.snd > 18325193)) (K (Value.tuple #[Value.int IntKind.i64 0, Value.int IntKind.i64 5]))
 (bcase (decide (IntKind.i64.wrap (IntKind.i64.wrap (IntKind.i64.wrap (s_1.snd * 60000) + IntKind.i64.wrap (IntKind.i64.wrap (IntKind.i64.wrap (10 * IntKind.i64.wrap (IntKind.u8.wrap ((↑(s.get! (IntKind.i64.wrap (s_1.fst + 1)).toNat).toNat : Int) - 48))) + IntKind.i64.wrap (IntKind.u8.wrap ((↑(s.get! (IntKind.i64.wrap (s_1.fst + 2)).toNat).toNat : Int) - 48))) * 1000)) + 0) > 1099511627776))
 (K (Value.tuple #[Value.int IntKind.i64 0, Value.int IntKind.i64 5]))
 (K
 (Value.tuple
 #[Value.int IntKind.i64
 (IntKind.i64.wrap (0 - IntKind.i64.wrap (IntKind.i64.wrap (IntKind.i64.wrap (s_1.snd * 60000) + IntKind.i64.wrap (IntKind.i64.wrap (IntKind.i64.wrap (10 * IntKind.i64.wrap (IntKind.u8.wrap ((↑(s.get! (IntKind.i64.wrap (s_1.fst + 1)).toNat).toNat : Int) - 48))) + IntKind.i64.wrap (IntKind.u8.wrap ((↑(s.get! (IntKind.i64.wrap (s_1.fst + 2)).toNat).toNat : Int) - 48))) * 1000)) + 0))),
 Value.int IntKind.i64 0])))))
 False)
 False))
 False))
 (K (Value.tuple #[Value.int IntKind.i64 0, Value.int IntKind.i64 7])))
 False))
 (K (Value.tuple #[Value.int IntKind.i64 0, Value.int IntKind.i64 7])))
 False))
 False)))) ∧
 ∃ (s_1 : Nat),
 (s = s ∧ Int.ofNat 0 = 0 ∧ Int.ofNat 0 = 0 ∧ Int.ofNat 7 = 7 ∧ 1 = 1 + (↑s_1 : Int) ∧ Int.ofNat 1 = 1 ∧ 0 = drI l s_1 ∧ True) ∧
 AllDg l s_1 ∧
 ∀ (s_2 : Nat),
 AllDg l s_2 →
 bcase (decide (1 + (↑s_2 : Int) < (↑s.size : Int)))
 (bcase (inB (1 + (↑s_2 : Int)) s.size)
 (bcase (decide ((↑(s.get! (1 + (↑s_2 : Int)).toNat).toNat : Int) ≥ 48))
 (bcase (decide ((↑(s.get! (1 + (↑s_2 : Int)).toNat).toNat : Int) ≤ 57))
 (bcase (decide (drI l s_2 ≤ 1099511627776))
 (bcase (inB (1 + (↑s_2 : Int)) s.size)
 (∃ (s_3 : Nat), (s = s ∧ Int.ofNat 0 = 0 ∧ Int.ofNat 0 = 0 ∧ Int.ofNat 7 = 7 ∧ IntKind.i64.wrap (1 + (↑s_2 : Int) + 1) = 1 + (↑s_3 : Int) ∧ Int.ofNat 1 = 1 ∧ IntKind.i64.wrap (IntKind.i64.wrap (10 * drI l s_2) + IntKind.i64.wrap (IntKind.u8.wrap ((↑(s.get! (1 + (↑s_2 : Int)).toNat).toNat : Int) - 48))) = drI l s_3 ∧ True) ∧ AllDg l s_3 ∧ l.length - s_3 < l.length - s_2) False)
 (∃ (s_3 : Nat), (s = s ∧ Int.ofNat 0 = 0 ∧ Int.ofNat 0 = 0 ∧ Int.ofNat 7 = 7 ∧ IntKind.i64.wrap (1 + (↑s_2 : Int) + 1) = 1 + (↑s_3 : Int) ∧ Int.ofNat 1 = 1 ∧ drI l s_2 = drI l s_3 ∧ True) ∧ AllDg l s_3 ∧ l.length - s_3 < l.length - s_2))
 (∃ (s_3 : Int × Int), (s = s ∧ Int.ofNat 0 = 0 ∧ Int.ofNat 0 = 0 ∧ Int.ofNat 7 = 7 ∧ 1 + (↑s_2 : Int) = s_3.fst ∧ Int.ofNat 1 = 1 ∧ drI l s_2 = s_3.snd ∧ True) ∧ RJ l 1 s_3.fst s_3.snd))
 (∃ (s_3 : Int × Int), (s = s ∧ Int.ofNat 0 = 0 ∧ Int.ofNat 0 = 0 ∧ Int.ofNat 7 = 7 ∧ 1 + (↑s_2 : Int) = s_3.fst ∧ Int.ofNat 1 = 1 ∧ drI l s_2 = s_3.snd ∧ True) ∧ RJ l 1 s_3.fst s_3.snd))
 False)
 (∃ (s_3 : Int × Int), (s = s ∧ Int.ofNat 0 = 0 ∧ Int.ofNat 0 = 0 ∧ Int.ofNat 7 = 7 ∧ 1 + (↑s_2 : Int) = s_3.fst ∧ Int.ofNat 1 = 1 ∧ drI l s_2 = s_3.snd ∧ True) ∧ RJ l 1 s_3.fst s_3.snd))
 ((∀ (s_1 : Int × Int),
 RJ l 0 s_1.fst s_1.snd →
 bcase (s_1.fst == 0) (K (Value.tuple #[Value.int IntKind.i64 0, Value.int IntKind.i64 7]))
 (bcase (decide (IntKind.i64.wrap (s_1.fst - 0) > 1))
 (bcase (inB 0 s.size)
 (bcase ((↑(s.get! 0).toNat : Int) == 48) (K (Value.tuple #[Value.int IntKind.i64 0, Value.int IntKind.i64 7]))
 (bcase (decide ((↑s.size : Int) < IntKind.i64.wrap (s_1.fst + 3))) (K (Value.tuple #[Value.int IntKind.i64 0, Value.int IntKind.i64 7]))
 (bcase (inB s_1.fst s.size)
 (bcase ((↑(s.get! s_1.fst.toNat).toNat : Int) != 45) (K (Value.tuple #[Value.int IntKind.i64 0, Value.int IntKind.i64 7]))
 (bcase (inB (IntKind.i64.wrap (s_1.fst + 1)) s.size)
 (bcase (decide ((↑(s.get! (IntKind.i64.wrap (s_1.fst + 1)).toNat).toNat : Int) ≥ 48))
 (bcase (!decide ((↑(s.get! (IntKind.i64.wrap (s_1.fst + 1)).toNat).toNat : Int) ≤ 57)) (K (Value.tuple #[Value.int IntKind.i64 0, Value.int IntKind.i64 7]))
 (bcase (inB (IntKind.i64.wrap (s_1.fst + 2)) s.size)
 (bcase (decide ((↑(s.get! (IntKind.i64.wrap (s_1.fst + 2)).toNat).toNat : Int) ≥ 48))
 (bcase (!decide ((↑(s.get! (IntKind.i64.wrap (s_1.fst + 2)).toNat).toNat : Int) ≤ 57)) (K (Value.tuple #[Value.int IntKind.i64 0, Value.int IntKind.i64 7]))
 (bcase (inB (IntKind.i64.wrap (s_1.fst + 1)) s.size)
 (bcase (decide ((↑(s.get! (IntKind.i64.wrap (s_1.fst + 1)).toNat).toNat : Int) > 53)) (K (Value.tuple #[Value.int IntKind.i64 0, Value.int IntKind.i64 7]))
 (bcase (inB (IntKind.i64.wrap (s_1.fst + 1)) s.size)
 (bcase (inB (IntKind.i64.wrap (s_1.fst + 2)) s.size)
 (bcase (decide (IntKind.i64.wrap (s_1.fst + 3) < (↑s.size : Int)))
 (bcase (inB (IntKind.i64.wrap (s_1.fst + 3)) s.size)
 (bcase ((↑(s.get! (IntKind.i64.wrap (s_1.fst + 3)).toNat).toNat : Int) != 46) (K (Value.tuple #[Value.int IntKind.i64 0, Value.int IntKind.i64 7]))
 (bcase ((↑s.size : Int) == IntKind.i64.wrap (IntKind.i64.wrap (s_1.fst + 3) + 1)) (K (Value.tuple #[Value.int IntKind.i64 0, Value.int IntKind.i64 7]))
 (bcase (decide ((↑s.size : Int) > IntKind.i64.wrap (IntKind.i64.wrap (s_1.fst + 3) + 4))) (K (Value.tuple #[Value.int IntKind.i64 0, Value.int IntKind.i64 7]))
 (∃ (s_2 : Nat),
 (s = s ∧
 Int.ofNat 0 = 0 ∧
 Int.ofNat 0 = 0 ∧
 Int.ofNat 7 = 7 ∧
 IntKind.i64.wrap (IntKind.i64.wrap (s_1.fst + 3) + 1) = IntKind.i64.wrap (IntKind.i64.wrap (s_1.fst + 3) + 1) + (↑s_2 : Int) ∧
 Int.ofNat 0 = 0 ∧
 s_1.snd = s_1.snd ∧
 IntKind.i64.wrap (IntKind.i64.wrap (10 * IntKind.i64.wrap (IntKind.u8.wrap ((↑(s.get! (IntKind.i64.wrap (s_1.fst + 1)).toNat).toNat : Int) - 48))) + IntKind.i64.wrap (IntKind.u8.wrap ((↑(s.get! (IntKind.i64.wrap (s_1.fst + 2)).toNat).toNat : Int) - 48))) =
 IntKind.i64.wrap (IntKind.i64.wrap (10 * IntKind.i64.wrap (IntKind.u8.wrap ((↑(s.get! (IntKind.i64.wrap (s_1.fst + 1)).toNat).toNat : Int) - 48))) + IntKind.i64.wrap (IntKind.u8.wrap ((↑(s.get! (IntKind.i64.wrap (s_1.fst + 2)).toNat).toNat : Int) - 48))) ∧
 0 = frI q s_2 ∧ 100 = unI s_2 ∧ True) ∧
 AllDg q s_2 ∧
 ∀ (s_3 : Nat),
 AllDg q s_3 →
 bcase (decide (IntKind.i64.wrap (IntKind.i64.wrap (s_1.fst + 3) + 1) + (↑s_3 : Int) < (↑s.size : Int)))
 (bcase (inB (IntKind.i64.wrap (IntKind.i64.wrap (s_1.fst + 3) + 1) + (↑s_3 : Int)) s.size)
 (bcase (decide ((↑(s.get! (IntKind.i64.wrap (IntKind.i64.wrap (s_1.fst + 3) + 1) + (↑s_3 : Int)).toNat).toNat : Int) ≥ 48))
 (bcase (!decide ((↑(s.get! (IntKind.i64.wrap (IntKind.i64.wrap (s_1.fst + 3) + 1) + (↑s_3 : Int)).toNat).toNat : Int) ≤ 57)) (K (Value.tuple #[Value.int IntKind.i64 0, Value.int IntKind.i64 7]))
 (bcase (inB (IntKind.i64.wrap (IntKind.i64.wrap (s_1.fst + 3) + 1) + (↑s_3 : Int)) s.size)
 (∃ (s_4 : Nat),
 (s = s ∧
 Int.ofNat 0 = 0 ∧
 Int.ofNat 0 = 0 ∧
 Int.ofNat 7 = 7 ∧
 IntKind.i64.wrap (IntKind.i64.wrap (IntKind.i64.wrap (s_1.fst + 3) + 1) + (↑s_3 : Int) + 1) = IntKind.i64.wrap (IntKind.i64.wrap (s_1.fst + 3) + 1) + (↑s_4 : Int) ∧
 Int.ofNat 0 = 0 ∧
 s_1.snd = s_1.snd ∧
 IntKind.i64.wrap (IntKind.i64.wrap (10 * IntKind.i64.wrap (IntKind.u8.wrap ((↑(s.get! (IntKind.i64.wrap (s_1.fst + 1)).toNat).toNat : Int) - 48))) + IntKind.i64.wrap (IntKind.u8.wrap ((↑(s.get! (IntKind.i64.wrap (s_1.fst + 2)).toNat).toNat : Int) - 48))) =
 IntKind.i64.wrap (IntKind.i64.wrap (10 * IntKind.i64.wrap (IntKind.u8.wrap ((↑(s.get! (IntKind.i64.wrap (s_1.fst + 1)).toNat).toNat : Int) - 48))) + IntKind.i64.wrap (IntKind.u8.wrap ((↑(s.get! (IntKind.i64.wrap (s_1.fst + 2)).toNat).toNat : Int) - 48))) ∧
 IntKind.i64.wrap (frI q s_3 + IntKind.i64.wrap (unI s_3 * IntKind.i64.wrap (IntKind.u8.wrap ((↑(s.get! (IntKind.i64.wrap (IntKind.i64.wrap (s_1.fst + 3) + 1) + (↑s_3 : Int)).toNat).toNat : Int) - 48)))) = frI q s_4 ∧ IntKind.i64.wrap ((unI s_3).tdiv 10) = unI s_4 ∧ True) ∧
 AllDg q s_4 ∧ q.length - s_4 < q.length - s_3)
 False))
 (K (Value.tuple #[Value.int IntKind.i64 0, Value.int IntKind.i64 7])))
 False)
 (bcase (decide (s_1.snd > 18325193)) (K (Value.tuple #[Value.int IntKind.i64 0, Value.int IntKind.i64 5]))
 (bcase
 (decide (IntKind.i64.wrap (IntKind.i64.wrap (IntKind.i64.wrap (s_1.snd * 60000) + IntKind.i64.wrap (IntKind.i64.wrap (IntKind.i64.wrap (10 * IntKind.i64.wrap (IntKind.u8.wrap ((↑(s.get! (IntKind.i64.wrap (s_1.fst + 1)).toNat).toNat : Int) - 48))) + IntKind.i64.wrap (IntKind.u8.wrap ((↑(s.get! (IntKind.i64.wrap (s_1.fst + 2)).toNat).toNat : Int) - 48))) * 1000)) + frI q s_3) > 1099511627776))
 (K (Value.tuple #[Value.int IntKind.i64 0, Value.int IntKind.i64 5]))
 (K
 (Value.tuple
 #[Value.int IntKind.i64 (IntKind.i64.wrap (IntKind.i64.wrap (IntKind.i64.wrap (s_1.snd * 60000) + IntKind.i64.wrap (IntKind.i64.wrap (IntKind.i64.wrap (10 * IntKind.i64.wrap (IntKind.u8.wrap ((↑(s.get! (IntKind.i64.wrap (s_1.fst + 1)).toNat).toNat : Int) - 48))) + IntKind.i64.wrap (IntKind.u8.wrap ((↑(s.get! (IntKind.i64.wrap (s_1.fst + 2)).toNat).toNat : Int) - 48))) * 1000)) + frI q s_3)),
 Value.int IntKind.i64 0]))))))))
 False)
 (bcase (decide (s_1.snd > 18325193)) (K (Value.tuple #[Value.int IntKind.i64 0, Value.int IntKind.i64 5]))
 (bcase (decide (IntKind.i64.wrap (IntKind.i64.wrap (IntKind.i64.wrap (s_1.snd * 60000) + IntKind.i64.wrap (IntKind.i64.wrap (IntKind.i64.wrap (10 * IntKind.i64.wrap (IntKind.u8.wrap ((↑(s.get! (IntKind.i64.wrap (s_1.fst + 1)).toNat).toNat : Int) - 48))) + IntKind.i64.wrap (IntKind.u8.wrap ((↑(s.get! (IntKind.i64.wrap (s_1.fst + 2)).toNat).toNat : Int) - 48))) * 1000)) + 0) > 1099511627776))
 (K (Value.tuple #[Value.int IntKind.i64 0, Value.int IntKind.i64 5]))
 (K
 (Value.tuple
 #[Value.int IntKind.i64 (IntKind.i64.wrap (IntKind.i64.wrap (IntKind.i64.wrap (s_1.snd * 60000) + IntKind.i64.wrap (IntKind.i64.wrap (IntKind.i64.wrap (10 * IntKind.i64.wrap (IntKind.u8.wrap ((↑(s.get! (IntKind.i64.wrap (s_1.fst + 1)).toNat).toNat : Int) - 48))) + IntKind.i64.wrap (IntKind.u8.wrap ((↑(s.get! (IntKind.i64.wrap (s_1.fst + 2)).toNat).toNat : Int) - 48))) * 1000)) + 0)),
 Value.int IntKind.i64 0])))))
 False)
 False))
 False))
 (K (Value.tuple #[Value.int IntKind.i64 0, Value.int IntKind.i64 7])))
 False))
 (K (Value.tuple #[Value.int IntKind.i64 0, Value.int IntKind.i64 7])))
 False))
 False)))
 False)
 (bcase (decide ((↑s.size : Int) < IntKind.i64.wrap (s_1.fst + 3))) (K (Value.tuple #[Value.int IntKind.i64 0, Value.int IntKind.i64 7]))
 (bcase (inB s_1.fst s.size)
 (bcase ((↑(s.get! s_1.fst.toNat).toNat : Int) != 45) (K (Value.tuple #[Value.int IntKind.i64 0, Value.int IntKind.i64 7]))
 (bcase (inB (IntKind.i64.wrap (s_1.fst + 1)) s.size)
 (bcase (decide ((↑(s.get! (IntKind.i64.wrap (s_1.fst + 1)).toNat).toNat : Int) ≥ 48))
 (bcase (!decide ((↑(s.get! (IntKind.i64.wrap (s_1.fst + 1)).toNat).toNat : Int) ≤ 57)) (K (Value.tuple #[Value.int IntKind.i64 0, Value.int IntKind.i64 7]))
 (bcase (inB (IntKind.i64.wrap (s_1.fst + 2)) s.size)
 (bcase (decide ((↑(s.get! (IntKind.i64.wrap (s_1.fst + 2)).toNat).toNat : Int) ≥ 48))
 (bcase (!decide ((↑(s.get! (IntKind.i64.wrap (s_1.fst + 2)).toNat).toNat : Int) ≤ 57)) (K (Value.tuple #[Value.int IntKind.i64 0, Value.int IntKind.i64 7]))
 (bcase (inB (IntKind.i64.wrap (s_1.fst + 1)) s.size)
 (bcase (decide ((↑(s.get! (IntKind.i64.wrap (s_1.fst + 1)).toNat).toNat : Int) > 53)) (K (Value.tuple #[Value.int IntKind.i64 0, Value.int IntKind.i64 7]))
 (bcase (inB (IntKind.i64.wrap (s_1.fst + 1)) s.size)
 (bcase (inB (IntKind.i64.wrap (s_1.fst + 2)) s.size)
 (bcase (decide (IntKind.i64.wrap (s_1.fst + 3) < (↑s.size : Int)))
 (bcase (inB (IntKind.i64.wrap (s_1.fst + 3)) s.size)
 (bcase ((↑(s.get! (IntKind.i64.wrap (s_1.fst + 3)).toNat).toNat : Int) != 46) (K (Value.tuple #[Value.int IntKind.i64 0, Value.int IntKind.i64 7]))
 (bcase ((↑s.size : Int) == IntKind.i64.wrap (IntKind.i64.wrap (s_1.fst + 3) + 1)) (K (Value.tuple #[Value.int IntKind.i64 0, Value.int IntKind.i64 7]))
 (bcase (decide ((↑s.size : Int) > IntKind.i64.wrap (IntKind.i64.wrap (s_1.fst + 3) + 4))) (K (Value.tuple #[Value.int IntKind.i64 0, Value.int IntKind.i64 7]))
 (∃ (s_2 : Nat),
 (s = s ∧
 Int.ofNat 0 = 0 ∧
 Int.ofNat 0 = 0 ∧
 Int.ofNat 7 = 7 ∧
 IntKind.i64.wrap (IntKind.i64.wrap (s_1.fst + 3) + 1) = IntKind.i64.wrap (IntKind.i64.wrap (s_1.fst + 3) + 1) + (↑s_2 : Int) ∧
 Int.ofNat 0 = 0 ∧
 s_1.snd = s_1.snd ∧
 IntKind.i64.wrap (IntKind.i64.wrap (10 * IntKind.i64.wrap (IntKind.u8.wrap ((↑(s.get! (IntKind.i64.wrap (s_1.fst + 1)).toNat).toNat : Int) - 48))) + IntKind.i64.wrap (IntKind.u8.wrap ((↑(s.get! (IntKind.i64.wrap (s_1.fst + 2)).toNat).toNat : Int) - 48))) =
 IntKind.i64.wrap (IntKind.i64.wrap (10 * IntKind.i64.wrap (IntKind.u8.wrap ((↑(s.get! (IntKind.i64.wrap (s_1.fst + 1)).toNat).toNat : Int) - 48))) + IntKind.i64.wrap (IntKind.u8.wrap ((↑(s.get! (IntKind.i64.wrap (s_1.fst + 2)).toNat).toNat : Int) - 48))) ∧
 0 = frI q s_2 ∧ 100 = unI s_2 ∧ True) ∧
 AllDg q s_2 ∧
 ∀ (s_3 : Nat),
 AllDg q s_3 →
 bcase (decide (IntKind.i64.wrap (IntKind.i64.wrap (s_1.fst + 3) + 1) + (↑s_3 : Int) < (↑s.size : Int)))
 (bcase (inB (IntKind.i64.wrap (IntKind.i64.wrap (s_1.fst + 3) + 1) + (↑s_3 : Int)) s.size)
 (bcase (decide ((↑(s.get! (IntKind.i64.wrap (IntKind.i64.wrap (s_1.fst + 3) + 1) + (↑s_3 : Int)).toNat).toNat : Int) ≥ 48))
 (bcase (!decide ((↑(s.get! (IntKind.i64.wrap (IntKind.i64.wrap (s_1.fst + 3) + 1) + (↑s_3 : Int)).toNat).toNat : Int) ≤ 57)) (K (Value.tuple #[Value.int IntKind.i64 0, Value.int IntKind.i64 7]))
 (bcase (inB (IntKind.i64.wrap (IntKind.i64.wrap (s_1.fst + 3) + 1) + (↑s_3 : Int)) s.size)
 (∃ (s_4 : Nat),
 (s = s ∧
 Int.ofNat 0 = 0 ∧
 Int.ofNat 0 = 0 ∧
 Int.ofNat 7 = 7 ∧
 IntKind.i64.wrap (IntKind.i64.wrap (IntKind.i64.wrap (s_1.fst + 3) + 1) + (↑s_3 : Int) + 1) = IntKind.i64.wrap (IntKind.i64.wrap (s_1.fst + 3) + 1) + (↑s_4 : Int) ∧
 Int.ofNat 0 = 0 ∧
 s_1.snd = s_1.snd ∧
 IntKind.i64.wrap (IntKind.i64.wrap (10 * IntKind.i64.wrap (IntKind.u8.wrap ((↑(s.get! (IntKind.i64.wrap (s_1.fst + 1)).toNat).toNat : Int) - 48))) + IntKind.i64.wrap (IntKind.u8.wrap ((↑(s.get! (IntKind.i64.wrap (s_1.fst + 2)).toNat).toNat : Int) - 48))) =
 IntKind.i64.wrap (IntKind.i64.wrap (10 * IntKind.i64.wrap (IntKind.u8.wrap ((↑(s.get! (IntKind.i64.wrap (s_1.fst + 1)).toNat).toNat : Int) - 48))) + IntKind.i64.wrap (IntKind.u8.wrap ((↑(s.get! (IntKind.i64.wrap (s_1.fst + 2)).toNat).toNat : Int) - 48))) ∧
 IntKind.i64.wrap (frI q s_3 + IntKind.i64.wrap (unI s_3 * IntKind.i64.wrap (IntKind.u8.wrap ((↑(s.get! (IntKind.i64.wrap (IntKind.i64.wrap (s_1.fst + 3) + 1) + (↑s_3 : Int)).toNat).toNat : Int) - 48)))) = frI q s_4 ∧ IntKind.i64.wrap ((unI s_3).tdiv 10) = unI s_4 ∧ True) ∧
 AllDg q s_4 ∧ q.length - s_4 < q.length - s_3)
 False))
 (K (Value.tuple #[Value.int IntKind.i64 0, Value.int IntKind.i64 7])))
 False)
 (bcase (decide (s_1.snd > 18325193)) (K (Value.tuple #[Value.int IntKind.i64 0, Value.int IntKind.i64 5]))
 (bcase
 (decide (IntKind.i64.wrap (IntKind.i64.wrap (IntKind.i64.wrap (s_1.snd * 60000) + IntKind.i64.wrap (IntKind.i64.wrap (IntKind.i64.wrap (10 * IntKind.i64.wrap (IntKind.u8.wrap ((↑(s.get! (IntKind.i64.wrap (s_1.fst + 1)).toNat).toNat : Int) - 48))) + IntKind.i64.wrap (IntKind.u8.wrap ((↑(s.get! (IntKind.i64.wrap (s_1.fst + 2)).toNat).toNat : Int) - 48))) * 1000)) + frI q s_3) > 1099511627776))
 (K (Value.tuple #[Value.int IntKind.i64 0, Value.int IntKind.i64 5]))
 (K
 (Value.tuple
 #[Value.int IntKind.i64 (IntKind.i64.wrap (IntKind.i64.wrap (IntKind.i64.wrap (s_1.snd * 60000) + IntKind.i64.wrap (IntKind.i64.wrap (IntKind.i64.wrap (10 * IntKind.i64.wrap (IntKind.u8.wrap ((↑(s.get! (IntKind.i64.wrap (s_1.fst + 1)).toNat).toNat : Int) - 48))) + IntKind.i64.wrap (IntKind.u8.wrap ((↑(s.get! (IntKind.i64.wrap (s_1.fst + 2)).toNat).toNat : Int) - 48))) * 1000)) + frI q s_3)),
 Value.int IntKind.i64 0]))))))))
 False)
 (bcase (decide (s_1.snd > 18325193)) (K (Value.tuple #[Value.int IntKind.i64 0, Value.int IntKind.i64 5]))
 (bcase (decide (IntKind.i64.wrap (IntKind.i64.wrap (IntKind.i64.wrap (s_1.snd * 60000) + IntKind.i64.wrap (IntKind.i64.wrap (IntKind.i64.wrap (10 * IntKind.i64.wrap (IntKind.u8.wrap ((↑(s.get! (IntKind.i64.wrap (s_1.fst + 1)).toNat).toNat : Int) - 48))) + IntKind.i64.wrap (IntKind.u8.wrap ((↑(s.get! (IntKind.i64.wrap (s_1.fst + 2)).toNat).toNat : Int) - 48))) * 1000)) + 0) > 1099511627776))
 (K (Value.tuple #[Value.int IntKind.i64 0, Value.int IntKind.i64 5]))
 (K
 (Value.tuple
 #[Value.int IntKind.i64 (IntKind.i64.wrap (IntKind.i64.wrap (IntKind.i64.wrap (s_1.snd * 60000) + IntKind.i64.wrap (IntKind.i64.wrap (IntKind.i64.wrap (10 * IntKind.i64.wrap (IntKind.u8.wrap ((↑(s.get! (IntKind.i64.wrap (s_1.fst + 1)).toNat).toNat : Int) - 48))) + IntKind.i64.wrap (IntKind.u8.wrap ((↑(s.get! (IntKind.i64.wrap (s_1.fst + 2)).toNat).toNat : Int) - 48))) * 1000)) + 0)),
 Value.int IntKind.i64 0])))))
 False)
 False))
 False))
 (K (Value.tuple #[Value.int IntKind.i64 0, Value.int IntKind.i64 7])))
 False))
 (K (Value.tuple #[Value.int IntKind.i64 0, Value.int IntKind.i64 7])))
 False))
 False)))) ∧
 ∃ (s_1 : Nat),
 (s = s ∧ Int.ofNat 0 = 0 ∧ Int.ofNat 0 = 0 ∧ Int.ofNat 7 = 7 ∧ 0 = 0 + (↑s_1 : Int) ∧ Int.ofNat 0 = 0 ∧ 0 = drI l s_1 ∧ True) ∧
 AllDg l s_1 ∧
 ∀ (s_2 : Nat),
 AllDg l s_2 →
 bcase (decide (0 + (↑s_2 : Int) < (↑s.size : Int)))
 (bcase (inB (0 + (↑s_2 : Int)) s.size)
 (bcase (decide ((↑(s.get! (0 + (↑s_2 : Int)).toNat).toNat : Int) ≥ 48))
 (bcase (decide ((↑(s.get! (0 + (↑s_2 : Int)).toNat).toNat : Int) ≤ 57))
 (bcase (decide (drI l s_2 ≤ 1099511627776))
 (bcase (inB (0 + (↑s_2 : Int)) s.size)
 (∃ (s_3 : Nat), (s = s ∧ Int.ofNat 0 = 0 ∧ Int.ofNat 0 = 0 ∧ Int.ofNat 7 = 7 ∧ IntKind.i64.wrap (0 + (↑s_2 : Int) + 1) = 0 + (↑s_3 : Int) ∧ Int.ofNat 0 = 0 ∧ IntKind.i64.wrap (IntKind.i64.wrap (10 * drI l s_2) + IntKind.i64.wrap (IntKind.u8.wrap ((↑(s.get! (0 + (↑s_2 : Int)).toNat).toNat : Int) - 48))) = drI l s_3 ∧ True) ∧ AllDg l s_3 ∧ l.length - s_3 < l.length - s_2) False)
 (∃ (s_3 : Nat), (s = s ∧ Int.ofNat 0 = 0 ∧ Int.ofNat 0 = 0 ∧ Int.ofNat 7 = 7 ∧ IntKind.i64.wrap (0 + (↑s_2 : Int) + 1) = 0 + (↑s_3 : Int) ∧ Int.ofNat 0 = 0 ∧ drI l s_2 = drI l s_3 ∧ True) ∧ AllDg l s_3 ∧ l.length - s_3 < l.length - s_2))
 (∃ (s_3 : Int × Int), (s = s ∧ Int.ofNat 0 = 0 ∧ Int.ofNat 0 = 0 ∧ Int.ofNat 7 = 7 ∧ 0 + (↑s_2 : Int) = s_3.fst ∧ Int.ofNat 0 = 0 ∧ drI l s_2 = s_3.snd ∧ True) ∧ RJ l 0 s_3.fst s_3.snd))
 (∃ (s_3 : Int × Int), (s = s ∧ Int.ofNat 0 = 0 ∧ Int.ofNat 0 = 0 ∧ Int.ofNat 7 = 7 ∧ 0 + (↑s_2 : Int) = s_3.fst ∧ Int.ofNat 0 = 0 ∧ drI l s_2 = s_3.snd ∧ True) ∧ RJ l 0 s_3.fst s_3.snd))
 False)
 (∃ (s_3 : Int × Int), (s = s ∧ Int.ofNat 0 = 0 ∧ Int.ofNat 0 = 0 ∧ Int.ofNat 7 = 7 ∧ 0 + (↑s_2 : Int) = s_3.fst ∧ Int.ofNat 0 = 0 ∧ drI l s_2 = s_3.snd ∧ True) ∧ RJ l 0 s_3.fst s_3.snd)))
 False)
 ((∀ (s_1 : Int × Int),
 RJ l 0 s_1.fst s_1.snd →
 bcase (s_1.fst == 0) (K (Value.tuple #[Value.int IntKind.i64 0, Value.int IntKind.i64 7]))
 (bcase (decide (IntKind.i64.wrap (s_1.fst - 0) > 1))
 (bcase (inB 0 s.size)
 (bcase ((↑(s.get! 0).toNat : Int) == 48) (K (Value.tuple #[Value.int IntKind.i64 0, Value.int IntKind.i64 7]))
 (bcase (decide ((↑s.size : Int) < IntKind.i64.wrap (s_1.fst + 3))) (K (Value.tuple #[Value.int IntKind.i64 0, Value.int IntKind.i64 7]))
 (bcase (inB s_1.fst s.size)
 (bcase ((↑(s.get! s_1.fst.toNat).toNat : Int) != 45) (K (Value.tuple #[Value.int IntKind.i64 0, Value.int IntKind.i64 7]))
 (bcase (inB (IntKind.i64.wrap (s_1.fst + 1)) s.size)
 (bcase (decide ((↑(s.get! (IntKind.i64.wrap (s_1.fst + 1)).toNat).toNat : Int) ≥ 48))
 (bcase (!decide ((↑(s.get! (IntKind.i64.wrap (s_1.fst + 1)).toNat).toNat : Int) ≤ 57)) (K (Value.tuple #[Value.int IntKind.i64 0, Value.int IntKind.i64 7]))
 (bcase (inB (IntKind.i64.wrap (s_1.fst + 2)) s.size)
 (bcase (decide ((↑(s.get! (IntKind.i64.wrap (s_1.fst + 2)).toNat).toNat : Int) ≥ 48))
 (bcase (!decide ((↑(s.get! (IntKind.i64.wrap (s_1.fst + 2)).toNat).toNat : Int) ≤ 57)) (K (Value.tuple #[Value.int IntKind.i64 0, Value.int IntKind.i64 7]))
 (bcase (inB (IntKind.i64.wrap (s_1.fst + 1)) s.size)
 (bcase (decide ((↑(s.get! (IntKind.i64.wrap (s_1.fst + 1)).toNat).toNat : Int) > 53)) (K (Value.tuple #[Value.int IntKind.i64 0, Value.int IntKind.i64 7]))
 (bcase (inB (IntKind.i64.wrap (s_1.fst + 1)) s.size)
 (bcase (inB (IntKind.i64.wrap (s_1.fst + 2)) s.size)
 (bcase (decide (IntKind.i64.wrap (s_1.fst + 3) < (↑s.size : Int)))
 (bcase (inB (IntKind.i64.wrap (s_1.fst + 3)) s.size)
 (bcase ((↑(s.get! (IntKind.i64.wrap (s_1.fst + 3)).toNat).toNat : Int) != 46) (K (Value.tuple #[Value.int IntKind.i64 0, Value.int IntKind.i64 7]))
 (bcase ((↑s.size : Int) == IntKind.i64.wrap (IntKind.i64.wrap (s_1.fst + 3) + 1)) (K (Value.tuple #[Value.int IntKind.i64 0, Value.int IntKind.i64 7]))
 (bcase (decide ((↑s.size : Int) > IntKind.i64.wrap (IntKind.i64.wrap (s_1.fst + 3) + 4))) (K (Value.tuple #[Value.int IntKind.i64 0, Value.int IntKind.i64 7]))
 (∃ (s_2 : Nat),
 (s = s ∧
 Int.ofNat 0 = 0 ∧
 Int.ofNat 0 = 0 ∧
 Int.ofNat 7 = 7 ∧
 IntKind.i64.wrap (IntKind.i64.wrap (s_1.fst + 3) + 1) = IntKind.i64.wrap (IntKind.i64.wrap (s_1.fst + 3) + 1) + (↑s_2 : Int) ∧
 Int.ofNat 0 = 0 ∧
 s_1.snd = s_1.snd ∧
 IntKind.i64.wrap (IntKind.i64.wrap (10 * IntKind.i64.wrap (IntKind.u8.wrap ((↑(s.get! (IntKind.i64.wrap (s_1.fst + 1)).toNat).toNat : Int) - 48))) + IntKind.i64.wrap (IntKind.u8.wrap ((↑(s.get! (IntKind.i64.wrap (s_1.fst + 2)).toNat).toNat : Int) - 48))) =
 IntKind.i64.wrap (IntKind.i64.wrap (10 * IntKind.i64.wrap (IntKind.u8.wrap ((↑(s.get! (IntKind.i64.wrap (s_1.fst + 1)).toNat).toNat : Int) - 48))) + IntKind.i64.wrap (IntKind.u8.wrap ((↑(s.get! (IntKind.i64.wrap (s_1.fst + 2)).toNat).toNat : Int) - 48))) ∧
 0 = frI q s_2 ∧ 100 = unI s_2 ∧ True) ∧
 AllDg q s_2 ∧
 ∀ (s_3 : Nat),
 AllDg q s_3 →
 bcase (decide (IntKind.i64.wrap (IntKind.i64.wrap (s_1.fst + 3) + 1) + (↑s_3 : Int) < (↑s.size : Int)))
 (bcase (inB (IntKind.i64.wrap (IntKind.i64.wrap (s_1.fst + 3) + 1) + (↑s_3 : Int)) s.size)
 (bcase (decide ((↑(s.get! (IntKind.i64.wrap (IntKind.i64.wrap (s_1.fst + 3) + 1) + (↑s_3 : Int)).toNat).toNat : Int) ≥ 48))
 (bcase (!decide ((↑(s.get! (IntKind.i64.wrap (IntKind.i64.wrap (s_1.fst + 3) + 1) + (↑s_3 : Int)).toNat).toNat : Int) ≤ 57)) (K (Value.tuple #[Value.int IntKind.i64 0, Value.int IntKind.i64 7]))
 (bcase (inB (IntKind.i64.wrap (IntKind.i64.wrap (s_1.fst + 3) + 1) + (↑s_3 : Int)) s.size)
 (∃ (s_4 : Nat),
 (s = s ∧
 Int.ofNat 0 = 0 ∧
 Int.ofNat 0 = 0 ∧
 Int.ofNat 7 = 7 ∧
 IntKind.i64.wrap (IntKind.i64.wrap (IntKind.i64.wrap (s_1.fst + 3) + 1) + (↑s_3 : Int) + 1) = IntKind.i64.wrap (IntKind.i64.wrap (s_1.fst + 3) + 1) + (↑s_4 : Int) ∧
 Int.ofNat 0 = 0 ∧
 s_1.snd = s_1.snd ∧
 IntKind.i64.wrap (IntKind.i64.wrap (10 * IntKind.i64.wrap (IntKind.u8.wrap ((↑(s.get! (IntKind.i64.wrap (s_1.fst + 1)).toNat).toNat : Int) - 48))) + IntKind.i64.wrap (IntKind.u8.wrap ((↑(s.get! (IntKind.i64.wrap (s_1.fst + 2)).toNat).toNat : Int) - 48))) =
 IntKind.i64.wrap (IntKind.i64.wrap (10 * IntKind.i64.wrap (IntKind.u8.wrap ((↑(s.get! (IntKind.i64.wrap (s_1.fst + 1)).toNat).toNat : Int) - 48))) + IntKind.i64.wrap (IntKind.u8.wrap ((↑(s.get! (IntKind.i64.wrap (s_1.fst + 2)).toNat).toNat : Int) - 48))) ∧
 IntKind.i64.wrap (frI q s_3 + IntKind.i64.wrap (unI s_3 * IntKind.i64.wrap (IntKind.u8.wrap ((↑(s.get! (IntKind.i64.wrap (IntKind.i64.wrap (s_1.fst + 3) + 1) + (↑s_3 : Int)).toNat).toNat : Int) - 48)))) = frI q s_4 ∧ IntKind.i64.wrap ((unI s_3).tdiv 10) = unI s_4 ∧ True) ∧
 AllDg q s_4 ∧ q.length - s_4 < q.length - s_3)
 False))
 (K (Value.tuple #[Value.int IntKind.i64 0, Value.int IntKind.i64 7])))
 False)
 (bcase (decide (s_1.snd > 18325193)) (K (Value.tuple #[Value.int IntKind.i64 0, Value.int IntKind.i64 5]))
 (bcase
 (decide (IntKind.i64.wrap (IntKind.i64.wrap (IntKind.i64.wrap (s_1.snd * 60000) + IntKind.i64.wrap (IntKind.i64.wrap (IntKind.i64.wrap (10 * IntKind.i64.wrap (IntKind.u8.wrap ((↑(s.get! (IntKind.i64.wrap (s_1.fst + 1)).toNat).toNat : Int) - 48))) + IntKind.i64.wrap (IntKind.u8.wrap ((↑(s.get! (IntKind.i64.wrap (s_1.fst + 2)).toNat).toNat : Int) - 48))) * 1000)) + frI q s_3) > 1099511627776))
 (K (Value.tuple #[Value.int IntKind.i64 0, Value.int IntKind.i64 5]))
 (K
 (Value.tuple
 #[Value.int IntKind.i64 (IntKind.i64.wrap (IntKind.i64.wrap (IntKind.i64.wrap (s_1.snd * 60000) + IntKind.i64.wrap (IntKind.i64.wrap (IntKind.i64.wrap (10 * IntKind.i64.wrap (IntKind.u8.wrap ((↑(s.get! (IntKind.i64.wrap (s_1.fst + 1)).toNat).toNat : Int) - 48))) + IntKind.i64.wrap (IntKind.u8.wrap ((↑(s.get! (IntKind.i64.wrap (s_1.fst + 2)).toNat).toNat : Int) - 48))) * 1000)) + frI q s_3)),
 Value.int IntKind.i64 0]))))))))
 False)
 (bcase (decide (s_1.snd > 18325193)) (K (Value.tuple #[Value.int IntKind.i64 0, Value.int IntKind.i64 5]))
 (bcase (decide (IntKind.i64.wrap (IntKind.i64.wrap (IntKind.i64.wrap (s_1.snd * 60000) + IntKind.i64.wrap (IntKind.i64.wrap (IntKind.i64.wrap (10 * IntKind.i64.wrap (IntKind.u8.wrap ((↑(s.get! (IntKind.i64.wrap (s_1.fst + 1)).toNat).toNat : Int) - 48))) + IntKind.i64.wrap (IntKind.u8.wrap ((↑(s.get! (IntKind.i64.wrap (s_1.fst + 2)).toNat).toNat : Int) - 48))) * 1000)) + 0) > 1099511627776))
 (K (Value.tuple #[Value.int IntKind.i64 0, Value.int IntKind.i64 5]))
 (K
 (Value.tuple
 #[Value.int IntKind.i64 (IntKind.i64.wrap (IntKind.i64.wrap (IntKind.i64.wrap (s_1.snd * 60000) + IntKind.i64.wrap (IntKind.i64.wrap (IntKind.i64.wrap (10 * IntKind.i64.wrap (IntKind.u8.wrap ((↑(s.get! (IntKind.i64.wrap (s_1.fst + 1)).toNat).toNat : Int) - 48))) + IntKind.i64.wrap (IntKind.u8.wrap ((↑(s.get! (IntKind.i64.wrap (s_1.fst + 2)).toNat).toNat : Int) - 48))) * 1000)) + 0)),
 Value.int IntKind.i64 0])))))
 False)
 False))
 False))
 (K (Value.tuple #[Value.int IntKind.i64 0, Value.int IntKind.i64 7])))
 False))
 (K (Value.tuple #[Value.int IntKind.i64 0, Value.int IntKind.i64 7])))
 False))
 False)))
 False)
 (bcase (decide ((↑s.size : Int) < IntKind.i64.wrap (s_1.fst + 3))) (K (Value.tuple #[Value.int IntKind.i64 0, Value.int IntKind.i64 7]))
 (bcase (inB s_1.fst s.size)
 (bcase ((↑(s.get! s_1.fst.toNat).toNat : Int) != 45) (K (Value.tuple #[Value.int IntKind.i64 0, Value.int IntKind.i64 7]))
 (bcase (inB (IntKind.i64.wrap (s_1.fst + 1)) s.size)
 (bcase (decide ((↑(s.get! (IntKind.i64.wrap (s_1.fst + 1)).toNat).toNat : Int) ≥ 48))
 (bcase (!decide ((↑(s.get! (IntKind.i64.wrap (s_1.fst + 1)).toNat).toNat : Int) ≤ 57)) (K (Value.tuple #[Value.int IntKind.i64 0, Value.int IntKind.i64 7]))
 (bcase (inB (IntKind.i64.wrap (s_1.fst + 2)) s.size)
 (bcase (decide ((↑(s.get! (IntKind.i64.wrap (s_1.fst + 2)).toNat).toNat : Int) ≥ 48))
 (bcase (!decide ((↑(s.get! (IntKind.i64.wrap (s_1.fst + 2)).toNat).toNat : Int) ≤ 57)) (K (Value.tuple #[Value.int IntKind.i64 0, Value.int IntKind.i64 7]))
 (bcase (inB (IntKind.i64.wrap (s_1.fst + 1)) s.size)
 (bcase (decide ((↑(s.get! (IntKind.i64.wrap (s_1.fst + 1)).toNat).toNat : Int) > 53)) (K (Value.tuple #[Value.int IntKind.i64 0, Value.int IntKind.i64 7]))
 (bcase (inB (IntKind.i64.wrap (s_1.fst + 1)) s.size)
 (bcase (inB (IntKind.i64.wrap (s_1.fst + 2)) s.size)
 (bcase (decide (IntKind.i64.wrap (s_1.fst + 3) < (↑s.size : Int)))
 (bcase (inB (IntKind.i64.wrap (s_1.fst + 3)) s.size)
 (bcase ((↑(s.get! (IntKind.i64.wrap (s_1.fst + 3)).toNat).toNat : Int) != 46) (K (Value.tuple #[Value.int IntKind.i64 0, Value.int IntKind.i64 7]))
 (bcase ((↑s.size : Int) == IntKind.i64.wrap (IntKind.i64.wrap (s_1.fst + 3) + 1)) (K (Value.tuple #[Value.int IntKind.i64 0, Value.int IntKind.i64 7]))
 (bcase (decide ((↑s.size : Int) > IntKind.i64.wrap (IntKind.i64.wrap (s_1.fst + 3) + 4))) (K (Value.tuple #[Value.int IntKind.i64 0, Value.int IntKind.i64 7]))
 (∃ (s_2 : Nat),
 (s = s ∧
 Int.ofNat 0 = 0 ∧
 Int.ofNat 0 = 0 ∧
 Int.ofNat 7 = 7 ∧
 IntKind.i64.wrap (IntKind.i64.wrap (s_1.fst + 3) + 1) = IntKind.i64.wrap (IntKind.i64.wrap (s_1.fst + 3) + 1) + (↑s_2 : Int) ∧
 Int.ofNat 0 = 0 ∧
 s_1.snd = s_1.snd ∧
 IntKind.i64.wrap (IntKind.i64.wrap (10 * IntKind.i64.wrap (IntKind.u8.wrap ((↑(s.get! (IntKind.i64.wrap (s_1.fst + 1)).toNat).toNat : Int) - 48))) + IntKind.i64.wrap (IntKind.u8.wrap ((↑(s.get! (IntKind.i64.wrap (s_1.fst + 2)).toNat).toNat : Int) - 48))) =
 IntKind.i64.wrap (IntKind.i64.wrap (10 * IntKind.i64.wrap (IntKind.u8.wrap ((↑(s.get! (IntKind.i64.wrap (s_1.fst + 1)).toNat).toNat : Int) - 48))) + IntKind.i64.wrap (IntKind.u8.wrap ((↑(s.get! (IntKind.i64.wrap (s_1.fst + 2)).toNat).toNat : Int) - 48))) ∧
 0 = frI q s_2 ∧ 100 = unI s_2 ∧ True) ∧
 AllDg q s_2 ∧
 ∀ (s_3 : Nat),
 AllDg q s_3 →
 bcase (decide (IntKind.i64.wrap (IntKind.i64.wrap (s_1.fst + 3) + 1) + (↑s_3 : Int) < (↑s.size : Int)))
 (bcase (inB (IntKind.i64.wrap (IntKind.i64.wrap (s_1.fst + 3) + 1) + (↑s_3 : Int)) s.size)
 (bcase (decide ((↑(s.get! (IntKind.i64.wrap (IntKind.i64.wrap (s_1.fst + 3) + 1) + (↑s_3 : Int)).toNat).toNat : Int) ≥ 48))
 (bcase (!decide ((↑(s.get! (IntKind.i64.wrap (IntKind.i64.wrap (s_1.fst + 3) + 1) + (↑s_3 : Int)).toNat).toNat : Int) ≤ 57)) (K (Value.tuple #[Value.int IntKind.i64 0, Value.int IntKind.i64 7]))
 (bcase (inB (IntKind.i64.wrap (IntKind.i64.wrap (s_1.fst + 3) + 1) + (↑s_3 : Int)) s.size)
 (∃ (s_4 : Nat),
 (s = s ∧
 Int.ofNat 0 = 0 ∧
 Int.ofNat 0 = 0 ∧
 Int.ofNat 7 = 7 ∧
 IntKind.i64.wrap (IntKind.i64.wrap (IntKind.i64.wrap (s_1.fst + 3) + 1) + (↑s_3 : Int) + 1) = IntKind.i64.wrap (IntKind.i64.wrap (s_1.fst + 3) + 1) + (↑s_4 : Int) ∧
 Int.ofNat 0 = 0 ∧
 s_1.snd = s_1.snd ∧
 IntKind.i64.wrap (IntKind.i64.wrap (10 * IntKind.i64.wrap (IntKind.u8.wrap ((↑(s.get! (IntKind.i64.wrap (s_1.fst + 1)).toNat).toNat : Int) - 48))) + IntKind.i64.wrap (IntKind.u8.wrap ((↑(s.get! (IntKind.i64.wrap (s_1.fst + 2)).toNat).toNat : Int) - 48))) =
 IntKind.i64.wrap (IntKind.i64.wrap (10 * IntKind.i64.wrap (IntKind.u8.wrap ((↑(s.get! (IntKind.i64.wrap (s_1.fst + 1)).toNat).toNat : Int) - 48))) + IntKind.i64.wrap (IntKind.u8.wrap ((↑(s.get! (IntKind.i64.wrap (s_1.fst + 2)).toNat).toNat : Int) - 48))) ∧
 IntKind.i64.wrap (frI q s_3 + IntKind.i64.wrap (unI s_3 * IntKind.i64.wrap (IntKind.u8.wrap ((↑(s.get! (IntKind.i64.wrap (IntKind.i64.wrap (s_1.fst + 3) + 1) + (↑s_3 : Int)).toNat).toNat : Int) - 48)))) = frI q s_4 ∧ IntKind.i64.wrap ((unI s_3).tdiv 10) = unI s_4 ∧ True) ∧
 AllDg q s_4 ∧ q.length - s_4 < q.length - s_3)
 False))
 (K (Value.tuple #[Value.int IntKind.i64 0, Value.int IntKind.i64 7])))
 False)
 (bcase (decide (s_1.snd > 18325193)) (K (Value.tuple #[Value.int IntKind.i64 0, Value.int IntKind.i64 5]))
 (bcase
 (decide (IntKind.i64.wrap (IntKind.i64.wrap (IntKind.i64.wrap (s_1.snd * 60000) + IntKind.i64.wrap (IntKind.i64.wrap (IntKind.i64.wrap (10 * IntKind.i64.wrap (IntKind.u8.wrap ((↑(s.get! (IntKind.i64.wrap (s_1.fst + 1)).toNat).toNat : Int) - 48))) + IntKind.i64.wrap (IntKind.u8.wrap ((↑(s.get! (IntKind.i64.wrap (s_1.fst + 2)).toNat).toNat : Int) - 48))) * 1000)) + frI q s_3) > 1099511627776))
 (K (Value.tuple #[Value.int IntKind.i64 0, Value.int IntKind.i64 5]))
 (K
 (Value.tuple
 #[Value.int IntKind.i64 (IntKind.i64.wrap (IntKind.i64.wrap (IntKind.i64.wrap (s_1.snd * 60000) + IntKind.i64.wrap (IntKind.i64.wrap (IntKind.i64.wrap (10 * IntKind.i64.wrap (IntKind.u8.wrap ((↑(s.get! (IntKind.i64.wrap (s_1.fst + 1)).toNat).toNat : Int) - 48))) + IntKind.i64.wrap (IntKind.u8.wrap ((↑(s.get! (IntKind.i64.wrap (s_1.fst + 2)).toNat).toNat : Int) - 48))) * 1000)) + frI q s_3)),
 Value.int IntKind.i64 0]))))))))
 False)
 (bcase (decide (s_1.snd > 18325193)) (K (Value.tuple #[Value.int IntKind.i64 0, Value.int IntKind.i64 5]))
 (bcase (decide (IntKind.i64.wrap (IntKind.i64.wrap (IntKind.i64.wrap (s_1.snd * 60000) + IntKind.i64.wrap (IntKind.i64.wrap (IntKind.i64.wrap (10 * IntKind.i64.wrap (IntKind.u8.wrap ((↑(s.get! (IntKind.i64.wrap (s_1.fst + 1)).toNat).toNat : Int) - 48))) + IntKind.i64.wrap (IntKind.u8.wrap ((↑(s.get! (IntKind.i64.wrap (s_1.fst + 2)).toNat).toNat : Int) - 48))) * 1000)) + 0) > 1099511627776))
 (K (Value.tuple #[Value.int IntKind.i64 0, Value.int IntKind.i64 5]))
 (K
 (Value.tuple
 #[Value.int IntKind.i64 (IntKind.i64.wrap (IntKind.i64.wrap (IntKind.i64.wrap (s_1.snd * 60000) + IntKind.i64.wrap (IntKind.i64.wrap (IntKind.i64.wrap (10 * IntKind.i64.wrap (IntKind.u8.wrap ((↑(s.get! (IntKind.i64.wrap (s_1.fst + 1)).toNat).toNat : Int) - 48))) + IntKind.i64.wrap (IntKind.u8.wrap ((↑(s.get! (IntKind.i64.wrap (s_1.fst + 2)).toNat).toNat : Int) - 48))) * 1000)) + 0)),
 Value.int IntKind.i64 0])))))
 False)
 False))
 False))
 (K (Value.tuple #[Value.int IntKind.i64 0, Value.int IntKind.i64 7])))
 False))
 (K (Value.tuple #[Value.int IntKind.i64 0, Value.int IntKind.i64 7])))
 False))
 False)))) ∧
 ∃ (s_1 : Nat),
 (s = s ∧ Int.ofNat 0 = 0 ∧ Int.ofNat 0 = 0 ∧ Int.ofNat 7 = 7 ∧ 0 = 0 + (↑s_1 : Int) ∧ Int.ofNat 0 = 0 ∧ 0 = drI l s_1 ∧ True) ∧
 AllDg l s_1 ∧
 ∀ (s_2 : Nat),
 AllDg l s_2 →
 bcase (decide (0 + (↑s_2 : Int) < (↑s.size : Int)))
 (bcase (inB (0 + (↑s_2 : Int)) s.size)
 (bcase (decide ((↑(s.get! (0 + (↑s_2 : Int)).toNat).toNat : Int) ≥ 48))
 (bcase (decide ((↑(s.get! (0 + (↑s_2 : Int)).toNat).toNat : Int) ≤ 57))
 (bcase (decide (drI l s_2 ≤ 1099511627776))
 (bcase (inB (0 + (↑s_2 : Int)) s.size)
 (∃ (s_3 : Nat), (s = s ∧ Int.ofNat 0 = 0 ∧ Int.ofNat 0 = 0 ∧ Int.ofNat 7 = 7 ∧ IntKind.i64.wrap (0 + (↑s_2 : Int) + 1) = 0 + (↑s_3 : Int) ∧ Int.ofNat 0 = 0 ∧ IntKind.i64.wrap (IntKind.i64.wrap (10 * drI l s_2) + IntKind.i64.wrap (IntKind.u8.wrap ((↑(s.get! (0 + (↑s_2 : Int)).toNat).toNat : Int) - 48))) = drI l s_3 ∧ True) ∧ AllDg l s_3 ∧ l.length - s_3 < l.length - s_2) False)
 (∃ (s_3 : Nat), (s = s ∧ Int.ofNat 0 = 0 ∧ Int.ofNat 0 = 0 ∧ Int.ofNat 7 = 7 ∧ IntKind.i64.wrap (0 + (↑s_2 : Int) + 1) = 0 + (↑s_3 : Int) ∧ Int.ofNat 0 = 0 ∧ drI l s_2 = drI l s_3 ∧ True) ∧ AllDg l s_3 ∧ l.length - s_3 < l.length - s_2))
 (∃ (s_3 : Int × Int), (s = s ∧ Int.ofNat 0 = 0 ∧ Int.ofNat 0 = 0 ∧ Int.ofNat 7 = 7 ∧ 0 + (↑s_2 : Int) = s_3.fst ∧ Int.ofNat 0 = 0 ∧ drI l s_2 = s_3.snd ∧ True) ∧ RJ l 0 s_3.fst s_3.snd))
 (∃ (s_3 : Int × Int), (s = s ∧ Int.ofNat 0 = 0 ∧ Int.ofNat 0 = 0 ∧ Int.ofNat 7 = 7 ∧ 0 + (↑s_2 : Int) = s_3.fst ∧ Int.ofNat 0 = 0 ∧ drI l s_2 = s_3.snd ∧ True) ∧ RJ l 0 s_3.fst s_3.snd))
 False)
 (∃ (s_3 : Int × Int), (s = s ∧ Int.ofNat 0 = 0 ∧ Int.ofNat 0 = 0 ∧ Int.ofNat 7 = 7 ∧ 0 + (↑s_2 : Int) = s_3.fst ∧ Int.ofNat 0 = 0 ∧ drI l s_2 = s_3.snd ∧ True) ∧ RJ l 0 s_3.fst s_3.snd))) := by kernel_rfl
end Go.Proofs.YtkcelhhhbbpbpaaDoor
