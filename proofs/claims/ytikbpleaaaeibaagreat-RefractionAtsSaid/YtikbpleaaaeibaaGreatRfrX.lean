/- Refraction: what the program's search asks. -/
import Derived.Test.YtikbpleaaaeibaaGreatRfrS
namespace Go.Proofs.YtikbpleaaaeibaaGreat
open Go Go.Abs Go.RowKit
set_option linter.unusedVariables false
set_option linter.unusedSimpArgs false
set_option maxRecDepth 100000 in
theorem vc_rfApp (a b t p : Int) (K : Value → Prop) : callsX Tryz.prog (ΓRap) (ASrch a b t p) 13 [wid a b, num t, num p] K = (
 True ∧
 bcase (!decide (ArcV a b)) (K (Value.tuple #[Value.agg #[Value.int IntKind.i64 0, Value.int IntKind.i64 0], Value.int IntKind.i64 1]))
 (True ∧
 bcase (!decide (Wth t p)) (K (Value.tuple #[Value.agg #[Value.int IntKind.i64 0, Value.int IntKind.i64 0], Value.int IntKind.i64 2]))
 (∃ (s : Int × Int),
 (Int.ofNat 5460001 = 5460001 ∧
 (25 = 25 ∧
 [([Blk.mk 23 (List.map AV.v (wid a b).cells.toList) (some true) none, Blk.mk 3 (List.map AV.v (num t).cells.toList) (some true) none, Blk.mk 3 (List.map AV.v (num p).cells.toList) (some true) none, Blk.mk 23 (List.map AV.v (Value.agg #[Value.int IntKind.i64 0, Value.int IntKind.i64 0]).cells.toList) (some true) none,
 Blk.mk (Blk.mk 3 (List.map AV.v (Value.int IntKind.i64 0).cells.toList) (some true) none).T (lsets (Blk.mk 3 (List.map AV.v (Value.int IntKind.i64 0).cells.toList) (some true) none).cs 0 (List.map AV.v (Value.int IntKind.i64 5460001).cells.toList)) (Blk.mk 3 (List.map AV.v (Value.int IntKind.i64 0).cells.toList) (some true) none).own
 (Blk.mk 3 (List.map AV.v (Value.int IntKind.i64 0).cells.toList) (some true) none).row].length,
 0),
 (([Blk.mk 23 (List.map AV.v (wid a b).cells.toList) (some true) none].length, 0).fst, ([Blk.mk 23 (List.map AV.v (wid a b).cells.toList) (some true) none].length, 0).snd),
 (([Blk.mk 23 (List.map AV.v (wid a b).cells.toList) (some true) none, Blk.mk 3 (List.map AV.v (num t).cells.toList) (some true) none].length, 0).fst, ([Blk.mk 23 (List.map AV.v (wid a b).cells.toList) (some true) none, Blk.mk 3 (List.map AV.v (num t).cells.toList) (some true) none].length, 0).snd)] =
 [(4 + 1,
 ([Blk.mk 23 (List.map AV.v (wid a b).cells.toList) (some true) none, Blk.mk 3 (List.map AV.v (num t).cells.toList) (some true) none, Blk.mk 3 (List.map AV.v (num p).cells.toList) (some true) none, Blk.mk 23 (List.map AV.v (Value.agg #[Value.int IntKind.i64 0, Value.int IntKind.i64 0]).cells.toList) (some true) none,
 Blk.mk (Blk.mk 3 (List.map AV.v (Value.int IntKind.i64 0).cells.toList) (some true) none).T (lsets (Blk.mk 3 (List.map AV.v (Value.int IntKind.i64 0).cells.toList) (some true) none).cs 0 (List.map AV.v (Value.int IntKind.i64 5460001).cells.toList)) (Blk.mk 3 (List.map AV.v (Value.int IntKind.i64 0).cells.toList) (some true) none).own
 (Blk.mk 3 (List.map AV.v (Value.int IntKind.i64 0).cells.toList) (some true) none).row].length,
 0).snd),
 (0 + 1, (([Blk.mk 23 (List.map AV.v (wid a b).cells.toList) (some true) none].length, 0).fst, ([Blk.mk 23 (List.map AV.v (wid a b).cells.toList) (some true) none].length, 0).snd).snd),
 (1 + 1, (([Blk.mk 23 (List.map AV.v (wid a b).cells.toList) (some true) none, Blk.mk 3 (List.map AV.v (num t).cells.toList) (some true) none].length, 0).fst, ([Blk.mk 23 (List.map AV.v (wid a b).cells.toList) (some true) none, Blk.mk 3 (List.map AV.v (num t).cells.toList) (some true) none].length, 0).snd).snd)]) ∧
 0 = s.fst ∧ 5460001 = s.snd ∧ a = a ∧ b = b ∧ t = t ∧ p = p ∧ Int.ofNat 0 = 0 ∧ Int.ofNat 0 = 0 ∧ Int.ofNat 5460001 = 5460001 ∧ (28 = 28 ∧ [(([] : List Blk).length, 0)] = [(0, (([] : List Blk).length, 0).snd)]) ∧ True) ∧
 SR (Pr1 a t p) s.fst s.snd ∧
 ∀ (s : Int × Int),
 SR (Pr1 a t p) s.fst s.snd →
 bcase (decide (s.fst < s.snd))
 (RU (IntKind.i64.wrap (-60000 + IntKind.i64.wrap ((IntKind.u64.wrap (IntKind.i64.wrap (s.fst + s.snd))).fdiv (2 ^ 1)))) ∧
 (Q20 (oneL (IntKind.i64.wrap (-60000 + IntKind.i64.wrap ((IntKind.u64.wrap (IntKind.i64.wrap (s.fst + s.snd))).fdiv (2 ^ 1))))) ∧ Q20 (oneH (IntKind.i64.wrap (-60000 + IntKind.i64.wrap ((IntKind.u64.wrap (IntKind.i64.wrap (s.fst + s.snd))).fdiv (2 ^ 1))))) ∧ Wth t p) ∧
 (RU (IntKind.i64.wrap (-60000 + IntKind.i64.wrap ((IntKind.u64.wrap (IntKind.i64.wrap (s.fst + s.snd))).fdiv (2 ^ 1)))) ∧ Q20 (tmL (oneL (IntKind.i64.wrap (-60000 + IntKind.i64.wrap ((IntKind.u64.wrap (IntKind.i64.wrap (s.fst + s.snd))).fdiv (2 ^ 1))))) t p)) ∧
 bcase (!decide (a < IntKind.i64.wrap (-60000 + IntKind.i64.wrap ((IntKind.u64.wrap (IntKind.i64.wrap (s.fst + s.snd))).fdiv (2 ^ 1))) - tmL (oneL (IntKind.i64.wrap (-60000 + IntKind.i64.wrap ((IntKind.u64.wrap (IntKind.i64.wrap (s.fst + s.snd))).fdiv (2 ^ 1))))) t p))
 (∃ (s_1 : Int × Int),
 (Int.ofNat 5460001 = 5460001 ∧
 (25 = 25 ∧
 [([Blk.mk 23 (List.map AV.v (wid a b).cells.toList) (some true) none, Blk.mk 3 (List.map AV.v (num t).cells.toList) (some true) none, Blk.mk 3 (List.map AV.v (num p).cells.toList) (some true) none, Blk.mk 23 (List.map AV.v (Value.agg #[Value.int IntKind.i64 0, Value.int IntKind.i64 0]).cells.toList) (some true) none,
 Blk.mk (Blk.mk 3 (List.map AV.v (Value.int IntKind.i64 0).cells.toList) (some true) none).T (lsets (Blk.mk 3 (List.map AV.v (Value.int IntKind.i64 0).cells.toList) (some true) none).cs 0 (List.map AV.v (Value.int IntKind.i64 5460001).cells.toList)) (Blk.mk 3 (List.map AV.v (Value.int IntKind.i64 0).cells.toList) (some true) none).own
 (Blk.mk 3 (List.map AV.v (Value.int IntKind.i64 0).cells.toList) (some true) none).row].length,
 0),
 (([Blk.mk 23 (List.map AV.v (wid a b).cells.toList) (some true) none].length, 0).fst, ([Blk.mk 23 (List.map AV.v (wid a b).cells.toList) (some true) none].length, 0).snd),
 (([Blk.mk 23 (List.map AV.v (wid a b).cells.toList) (some true) none, Blk.mk 3 (List.map AV.v (num t).cells.toList) (some true) none].length, 0).fst, ([Blk.mk 23 (List.map AV.v (wid a b).cells.toList) (some true) none, Blk.mk 3 (List.map AV.v (num t).cells.toList) (some true) none].length, 0).snd)] =
 [(4 + 1,
 ([Blk.mk 23 (List.map AV.v (wid a b).cells.toList) (some true) none, Blk.mk 3 (List.map AV.v (num t).cells.toList) (some true) none, Blk.mk 3 (List.map AV.v (num p).cells.toList) (some true) none, Blk.mk 23 (List.map AV.v (Value.agg #[Value.int IntKind.i64 0, Value.int IntKind.i64 0]).cells.toList) (some true) none,
 Blk.mk (Blk.mk 3 (List.map AV.v (Value.int IntKind.i64 0).cells.toList) (some true) none).T (lsets (Blk.mk 3 (List.map AV.v (Value.int IntKind.i64 0).cells.toList) (some true) none).cs 0 (List.map AV.v (Value.int IntKind.i64 5460001).cells.toList)) (Blk.mk 3 (List.map AV.v (Value.int IntKind.i64 0).cells.toList) (some true) none).own
 (Blk.mk 3 (List.map AV.v (Value.int IntKind.i64 0).cells.toList) (some true) none).row].length,
 0).snd),
 (0 + 1, (([Blk.mk 23 (List.map AV.v (wid a b).cells.toList) (some true) none].length, 0).fst, ([Blk.mk 23 (List.map AV.v (wid a b).cells.toList) (some true) none].length, 0).snd).snd),
 (1 + 1, (([Blk.mk 23 (List.map AV.v (wid a b).cells.toList) (some true) none, Blk.mk 3 (List.map AV.v (num t).cells.toList) (some true) none].length, 0).fst, ([Blk.mk 23 (List.map AV.v (wid a b).cells.toList) (some true) none, Blk.mk 3 (List.map AV.v (num t).cells.toList) (some true) none].length, 0).snd).snd)]) ∧
 IntKind.i64.wrap (IntKind.i64.wrap ((IntKind.u64.wrap (IntKind.i64.wrap (s.fst + s.snd))).fdiv (2 ^ 1)) + 1) = s_1.fst ∧ s.snd = s_1.snd ∧ a = a ∧ b = b ∧ t = t ∧ p = p ∧ Int.ofNat 0 = 0 ∧ Int.ofNat 0 = 0 ∧ Int.ofNat 5460001 = 5460001 ∧ (28 = 28 ∧ [(([] : List Blk).length, 0)] = [(0, (([] : List Blk).length, 0).snd)]) ∧ True) ∧
 SR (Pr1 a t p) s_1.fst s_1.snd ∧ (s_1.snd - s_1.fst).toNat < (s.snd - s.fst).toNat)
 (∃ (s_1 : Int × Int),
 (Int.ofNat 5460001 = 5460001 ∧
 (25 = 25 ∧
 [([Blk.mk 23 (List.map AV.v (wid a b).cells.toList) (some true) none, Blk.mk 3 (List.map AV.v (num t).cells.toList) (some true) none, Blk.mk 3 (List.map AV.v (num p).cells.toList) (some true) none, Blk.mk 23 (List.map AV.v (Value.agg #[Value.int IntKind.i64 0, Value.int IntKind.i64 0]).cells.toList) (some true) none,
 Blk.mk (Blk.mk 3 (List.map AV.v (Value.int IntKind.i64 0).cells.toList) (some true) none).T (lsets (Blk.mk 3 (List.map AV.v (Value.int IntKind.i64 0).cells.toList) (some true) none).cs 0 (List.map AV.v (Value.int IntKind.i64 5460001).cells.toList)) (Blk.mk 3 (List.map AV.v (Value.int IntKind.i64 0).cells.toList) (some true) none).own
 (Blk.mk 3 (List.map AV.v (Value.int IntKind.i64 0).cells.toList) (some true) none).row].length,
 0),
 (([Blk.mk 23 (List.map AV.v (wid a b).cells.toList) (some true) none].length, 0).fst, ([Blk.mk 23 (List.map AV.v (wid a b).cells.toList) (some true) none].length, 0).snd),
 (([Blk.mk 23 (List.map AV.v (wid a b).cells.toList) (some true) none, Blk.mk 3 (List.map AV.v (num t).cells.toList) (some true) none].length, 0).fst, ([Blk.mk 23 (List.map AV.v (wid a b).cells.toList) (some true) none, Blk.mk 3 (List.map AV.v (num t).cells.toList) (some true) none].length, 0).snd)] =
 [(4 + 1,
 ([Blk.mk 23 (List.map AV.v (wid a b).cells.toList) (some true) none, Blk.mk 3 (List.map AV.v (num t).cells.toList) (some true) none, Blk.mk 3 (List.map AV.v (num p).cells.toList) (some true) none, Blk.mk 23 (List.map AV.v (Value.agg #[Value.int IntKind.i64 0, Value.int IntKind.i64 0]).cells.toList) (some true) none,
 Blk.mk (Blk.mk 3 (List.map AV.v (Value.int IntKind.i64 0).cells.toList) (some true) none).T (lsets (Blk.mk 3 (List.map AV.v (Value.int IntKind.i64 0).cells.toList) (some true) none).cs 0 (List.map AV.v (Value.int IntKind.i64 5460001).cells.toList)) (Blk.mk 3 (List.map AV.v (Value.int IntKind.i64 0).cells.toList) (some true) none).own
 (Blk.mk 3 (List.map AV.v (Value.int IntKind.i64 0).cells.toList) (some true) none).row].length,
 0).snd),
 (0 + 1, (([Blk.mk 23 (List.map AV.v (wid a b).cells.toList) (some true) none].length, 0).fst, ([Blk.mk 23 (List.map AV.v (wid a b).cells.toList) (some true) none].length, 0).snd).snd),
 (1 + 1, (([Blk.mk 23 (List.map AV.v (wid a b).cells.toList) (some true) none, Blk.mk 3 (List.map AV.v (num t).cells.toList) (some true) none].length, 0).fst, ([Blk.mk 23 (List.map AV.v (wid a b).cells.toList) (some true) none, Blk.mk 3 (List.map AV.v (num t).cells.toList) (some true) none].length, 0).snd).snd)]) ∧
 s.fst = s_1.fst ∧ IntKind.i64.wrap ((IntKind.u64.wrap (IntKind.i64.wrap (s.fst + s.snd))).fdiv (2 ^ 1)) = s_1.snd ∧ a = a ∧ b = b ∧ t = t ∧ p = p ∧ Int.ofNat 0 = 0 ∧ Int.ofNat 0 = 0 ∧ Int.ofNat 5460001 = 5460001 ∧ (28 = 28 ∧ [(([] : List Blk).length, 0)] = [(0, (([] : List Blk).length, 0).snd)]) ∧ True) ∧
 SR (Pr1 a t p) s_1.fst s_1.snd ∧ (s_1.snd - s_1.fst).toNat < (s.snd - s.fst).toNat))
 (∃ (s_1 : Int × Int),
 (Int.ofNat 5460001 = 5460001 ∧
 (25 = 25 ∧
 [([Blk.mk 23 (List.map AV.v (wid a b).cells.toList) (some true) none, Blk.mk 3 (List.map AV.v (num t).cells.toList) (some true) none, Blk.mk 3 (List.map AV.v (num p).cells.toList) (some true) none, Blk.mk 23 (List.map AV.v (Value.agg #[Value.int IntKind.i64 0, Value.int IntKind.i64 0]).cells.toList) (some true) none,
 Blk.mk (Blk.mk 3 (List.map AV.v (Value.int IntKind.i64 0).cells.toList) (some true) none).T (lsets (Blk.mk 3 (List.map AV.v (Value.int IntKind.i64 0).cells.toList) (some true) none).cs 0 (List.map AV.v (Value.int IntKind.i64 5460001).cells.toList)) (Blk.mk 3 (List.map AV.v (Value.int IntKind.i64 0).cells.toList) (some true) none).own
 (Blk.mk 3 (List.map AV.v (Value.int IntKind.i64 0).cells.toList) (some true) none).row,
 Blk.mk 44 [AV.c 28 [((AS.mk (List.map AV.v [wid a b, num t, num p] ++ repl (Tryz.prog.funcs[13].ntmps - (List.map AV.v [wid a b, num t, num p]).length)) []).hp.length, 0)]] (some true) none].length,
 0),
 (([Blk.mk 23 (List.map AV.v (wid a b).cells.toList) (some true) none].length, 0).fst, ([Blk.mk 23 (List.map AV.v (wid a b).cells.toList) (some true) none].length, 0).snd),
 (([Blk.mk 23 (List.map AV.v (wid a b).cells.toList) (some true) none, Blk.mk 3 (List.map AV.v (num t).cells.toList) (some true) none].length, 0).fst, ([Blk.mk 23 (List.map AV.v (wid a b).cells.toList) (some true) none, Blk.mk 3 (List.map AV.v (num t).cells.toList) (some true) none].length, 0).snd)] =
 [(5 + 1,
 ([Blk.mk 23 (List.map AV.v (wid a b).cells.toList) (some true) none, Blk.mk 3 (List.map AV.v (num t).cells.toList) (some true) none, Blk.mk 3 (List.map AV.v (num p).cells.toList) (some true) none, Blk.mk 23 (List.map AV.v (Value.agg #[Value.int IntKind.i64 0, Value.int IntKind.i64 0]).cells.toList) (some true) none,
 Blk.mk (Blk.mk 3 (List.map AV.v (Value.int IntKind.i64 0).cells.toList) (some true) none).T (lsets (Blk.mk 3 (List.map AV.v (Value.int IntKind.i64 0).cells.toList) (some true) none).cs 0 (List.map AV.v (Value.int IntKind.i64 5460001).cells.toList)) (Blk.mk 3 (List.map AV.v (Value.int IntKind.i64 0).cells.toList) (some true) none).own
 (Blk.mk 3 (List.map AV.v (Value.int IntKind.i64 0).cells.toList) (some true) none).row,
 Blk.mk 44 [AV.c 28 [((AS.mk (List.map AV.v [wid a b, num t, num p] ++ repl (Tryz.prog.funcs[13].ntmps - (List.map AV.v [wid a b, num t, num p]).length)) []).hp.length, 0)]] (some true) none].length,
 0).snd),
 (0 + 1, (([Blk.mk 23 (List.map AV.v (wid a b).cells.toList) (some true) none].length, 0).fst, ([Blk.mk 23 (List.map AV.v (wid a b).cells.toList) (some true) none].length, 0).snd).snd),
 (1 + 1, (([Blk.mk 23 (List.map AV.v (wid a b).cells.toList) (some true) none, Blk.mk 3 (List.map AV.v (num t).cells.toList) (some true) none].length, 0).fst, ([Blk.mk 23 (List.map AV.v (wid a b).cells.toList) (some true) none, Blk.mk 3 (List.map AV.v (num t).cells.toList) (some true) none].length, 0).snd).snd)]) ∧
 0 = s_1.fst ∧ 5460001 = s_1.snd ∧ a = a ∧ b = b ∧ t = t ∧ p = p ∧ Int.ofNat 0 = 0 ∧ Int.ofNat 0 = 0 ∧ Int.ofNat 5460001 = 5460001 ∧ (28 = 28 ∧ [(([] : List Blk).length, 0)] = [(0, (([] : List Blk).length, 0).snd)]) ∧ (29 = 29 ∧ [(([] : List Blk).length, 0)] = [(0, (([] : List Blk).length, 0).snd)]) ∧ True) ∧
 SR (Pr2 b t p) s_1.fst s_1.snd ∧
 ∀ (s_2 : Int × Int),
 SR (Pr2 b t p) s_2.fst s_2.snd →
 bcase (decide (s_2.fst < s_2.snd))
 (RU (IntKind.i64.wrap (-60000 + IntKind.i64.wrap ((IntKind.u64.wrap (IntKind.i64.wrap (s_2.fst + s_2.snd))).fdiv (2 ^ 1)))) ∧
 (Q20 (oneL (IntKind.i64.wrap (-60000 + IntKind.i64.wrap ((IntKind.u64.wrap (IntKind.i64.wrap (s_2.fst + s_2.snd))).fdiv (2 ^ 1))))) ∧ Q20 (oneH (IntKind.i64.wrap (-60000 + IntKind.i64.wrap ((IntKind.u64.wrap (IntKind.i64.wrap (s_2.fst + s_2.snd))).fdiv (2 ^ 1))))) ∧ Wth t p) ∧
 (RU (IntKind.i64.wrap (-60000 + IntKind.i64.wrap ((IntKind.u64.wrap (IntKind.i64.wrap (s_2.fst + s_2.snd))).fdiv (2 ^ 1)))) ∧ Q20 (tmH (oneH (IntKind.i64.wrap (-60000 + IntKind.i64.wrap ((IntKind.u64.wrap (IntKind.i64.wrap (s_2.fst + s_2.snd))).fdiv (2 ^ 1))))) t p)) ∧
 bcase (!decide (b ≤ IntKind.i64.wrap (-60000 + IntKind.i64.wrap ((IntKind.u64.wrap (IntKind.i64.wrap (s_2.fst + s_2.snd))).fdiv (2 ^ 1))) - tmH (oneH (IntKind.i64.wrap (-60000 + IntKind.i64.wrap ((IntKind.u64.wrap (IntKind.i64.wrap (s_2.fst + s_2.snd))).fdiv (2 ^ 1))))) t p))
 (∃ (s : Int × Int),
 (Int.ofNat 5460001 = 5460001 ∧
 (25 = 25 ∧
 [([Blk.mk 23 (List.map AV.v (wid a b).cells.toList) (some true) none, Blk.mk 3 (List.map AV.v (num t).cells.toList) (some true) none, Blk.mk 3 (List.map AV.v (num p).cells.toList) (some true) none, Blk.mk 23 (List.map AV.v (Value.agg #[Value.int IntKind.i64 0, Value.int IntKind.i64 0]).cells.toList) (some true) none,
 Blk.mk (Blk.mk 3 (List.map AV.v (Value.int IntKind.i64 0).cells.toList) (some true) none).T (lsets (Blk.mk 3 (List.map AV.v (Value.int IntKind.i64 0).cells.toList) (some true) none).cs 0 (List.map AV.v (Value.int IntKind.i64 5460001).cells.toList)) (Blk.mk 3 (List.map AV.v (Value.int IntKind.i64 0).cells.toList) (some true) none).own
 (Blk.mk 3 (List.map AV.v (Value.int IntKind.i64 0).cells.toList) (some true) none).row,
 Blk.mk 44 [AV.c 28 [((AS.mk (List.map AV.v [wid a b, num t, num p] ++ repl (Tryz.prog.funcs[13].ntmps - (List.map AV.v [wid a b, num t, num p]).length)) []).hp.length, 0)]] (some true) none].length,
 0),
 (([Blk.mk 23 (List.map AV.v (wid a b).cells.toList) (some true) none].length, 0).fst, ([Blk.mk 23 (List.map AV.v (wid a b).cells.toList) (some true) none].length, 0).snd),
 (([Blk.mk 23 (List.map AV.v (wid a b).cells.toList) (some true) none, Blk.mk 3 (List.map AV.v (num t).cells.toList) (some true) none].length, 0).fst, ([Blk.mk 23 (List.map AV.v (wid a b).cells.toList) (some true) none, Blk.mk 3 (List.map AV.v (num t).cells.toList) (some true) none].length, 0).snd)] =
 [(5 + 1,
 ([Blk.mk 23 (List.map AV.v (wid a b).cells.toList) (some true) none, Blk.mk 3 (List.map AV.v (num t).cells.toList) (some true) none, Blk.mk 3 (List.map AV.v (num p).cells.toList) (some true) none, Blk.mk 23 (List.map AV.v (Value.agg #[Value.int IntKind.i64 0, Value.int IntKind.i64 0]).cells.toList) (some true) none,
 Blk.mk (Blk.mk 3 (List.map AV.v (Value.int IntKind.i64 0).cells.toList) (some true) none).T (lsets (Blk.mk 3 (List.map AV.v (Value.int IntKind.i64 0).cells.toList) (some true) none).cs 0 (List.map AV.v (Value.int IntKind.i64 5460001).cells.toList)) (Blk.mk 3 (List.map AV.v (Value.int IntKind.i64 0).cells.toList) (some true) none).own
 (Blk.mk 3 (List.map AV.v (Value.int IntKind.i64 0).cells.toList) (some true) none).row,
 Blk.mk 44 [AV.c 28 [((AS.mk (List.map AV.v [wid a b, num t, num p] ++ repl (Tryz.prog.funcs[13].ntmps - (List.map AV.v [wid a b, num t, num p]).length)) []).hp.length, 0)]] (some true) none].length,
 0).snd),
 (0 + 1, (([Blk.mk 23 (List.map AV.v (wid a b).cells.toList) (some true) none].length, 0).fst, ([Blk.mk 23 (List.map AV.v (wid a b).cells.toList) (some true) none].length, 0).snd).snd),
 (1 + 1, (([Blk.mk 23 (List.map AV.v (wid a b).cells.toList) (some true) none, Blk.mk 3 (List.map AV.v (num t).cells.toList) (some true) none].length, 0).fst, ([Blk.mk 23 (List.map AV.v (wid a b).cells.toList) (some true) none, Blk.mk 3 (List.map AV.v (num t).cells.toList) (some true) none].length, 0).snd).snd)]) ∧
 IntKind.i64.wrap (IntKind.i64.wrap ((IntKind.u64.wrap (IntKind.i64.wrap (s_2.fst + s_2.snd))).fdiv (2 ^ 1)) + 1) = s.fst ∧ s_2.snd = s.snd ∧ a = a ∧ b = b ∧ t = t ∧ p = p ∧ Int.ofNat 0 = 0 ∧ Int.ofNat 0 = 0 ∧ Int.ofNat 5460001 = 5460001 ∧ (28 = 28 ∧ [(([] : List Blk).length, 0)] = [(0, (([] : List Blk).length, 0).snd)]) ∧ (29 = 29 ∧ [(([] : List Blk).length, 0)] = [(0, (([] : List Blk).length, 0).snd)]) ∧ True) ∧
 SR (Pr2 b t p) s.fst s.snd ∧ (s.snd - s.fst).toNat < (s_2.snd - s_2.fst).toNat)
 (∃ (s : Int × Int),
 (Int.ofNat 5460001 = 5460001 ∧
 (25 = 25 ∧
 [([Blk.mk 23 (List.map AV.v (wid a b).cells.toList) (some true) none, Blk.mk 3 (List.map AV.v (num t).cells.toList) (some true) none, Blk.mk 3 (List.map AV.v (num p).cells.toList) (some true) none, Blk.mk 23 (List.map AV.v (Value.agg #[Value.int IntKind.i64 0, Value.int IntKind.i64 0]).cells.toList) (some true) none,
 Blk.mk (Blk.mk 3 (List.map AV.v (Value.int IntKind.i64 0).cells.toList) (some true) none).T (lsets (Blk.mk 3 (List.map AV.v (Value.int IntKind.i64 0).cells.toList) (some true) none).cs 0 (List.map AV.v (Value.int IntKind.i64 5460001).cells.toList)) (Blk.mk 3 (List.map AV.v (Value.int IntKind.i64 0).cells.toList) (some true) none).own
 (Blk.mk 3 (List.map AV.v (Value.int IntKind.i64 0).cells.toList) (some true) none).row,
 Blk.mk 44 [AV.c 28 [((AS.mk (List.map AV.v [wid a b, num t, num p] ++ repl (Tryz.prog.funcs[13].ntmps - (List.map AV.v [wid a b, num t, num p]).length)) []).hp.length, 0)]] (some true) none].length,
 0),
 (([Blk.mk 23 (List.map AV.v (wid a b).cells.toList) (some true) none].length, 0).fst, ([Blk.mk 23 (List.map AV.v (wid a b).cells.toList) (some true) none].length, 0).snd),
 (([Blk.mk 23 (List.map AV.v (wid a b).cells.toList) (some true) none, Blk.mk 3 (List.map AV.v (num t).cells.toList) (some true) none].length, 0).fst, ([Blk.mk 23 (List.map AV.v (wid a b).cells.toList) (some true) none, Blk.mk 3 (List.map AV.v (num t).cells.toList) (some true) none].length, 0).snd)] =
 [(5 + 1,
 ([Blk.mk 23 (List.map AV.v (wid a b).cells.toList) (some true) none, Blk.mk 3 (List.map AV.v (num t).cells.toList) (some true) none, Blk.mk 3 (List.map AV.v (num p).cells.toList) (some true) none, Blk.mk 23 (List.map AV.v (Value.agg #[Value.int IntKind.i64 0, Value.int IntKind.i64 0]).cells.toList) (some true) none,
 Blk.mk (Blk.mk 3 (List.map AV.v (Value.int IntKind.i64 0).cells.toList) (some true) none).T (lsets (Blk.mk 3 (List.map AV.v (Value.int IntKind.i64 0).cells.toList) (some true) none).cs 0 (List.map AV.v (Value.int IntKind.i64 5460001).cells.toList)) (Blk.mk 3 (List.map AV.v (Value.int IntKind.i64 0).cells.toList) (some true) none).own
 (Blk.mk 3 (List.map AV.v (Value.int IntKind.i64 0).cells.toList) (some true) none).row,
 Blk.mk 44 [AV.c 28 [((AS.mk (List.map AV.v [wid a b, num t, num p] ++ repl (Tryz.prog.funcs[13].ntmps - (List.map AV.v [wid a b, num t, num p]).length)) []).hp.length, 0)]] (some true) none].length,
 0).snd),
 (0 + 1, (([Blk.mk 23 (List.map AV.v (wid a b).cells.toList) (some true) none].length, 0).fst, ([Blk.mk 23 (List.map AV.v (wid a b).cells.toList) (some true) none].length, 0).snd).snd),
 (1 + 1, (([Blk.mk 23 (List.map AV.v (wid a b).cells.toList) (some true) none, Blk.mk 3 (List.map AV.v (num t).cells.toList) (some true) none].length, 0).fst, ([Blk.mk 23 (List.map AV.v (wid a b).cells.toList) (some true) none, Blk.mk 3 (List.map AV.v (num t).cells.toList) (some true) none].length, 0).snd).snd)]) ∧
 s_2.fst = s.fst ∧ IntKind.i64.wrap ((IntKind.u64.wrap (IntKind.i64.wrap (s_2.fst + s_2.snd))).fdiv (2 ^ 1)) = s.snd ∧ a = a ∧ b = b ∧ t = t ∧ p = p ∧ Int.ofNat 0 = 0 ∧ Int.ofNat 0 = 0 ∧ Int.ofNat 5460001 = 5460001 ∧ (28 = 28 ∧ [(([] : List Blk).length, 0)] = [(0, (([] : List Blk).length, 0).snd)]) ∧ (29 = 29 ∧ [(([] : List Blk).length, 0)] = [(0, (([] : List Blk).length, 0).snd)]) ∧ True) ∧
 SR (Pr2 b t p) s.fst s.snd ∧ (s.snd - s.fst).toNat < (s_2.snd - s_2.fst).toNat))
 (bcase (decide (IntKind.i64.wrap (IntKind.i64.wrap (-60000 + s.fst) - 1) < -60000)) (K (Value.tuple #[Value.agg #[Value.int IntKind.i64 0, Value.int IntKind.i64 0], Value.int IntKind.i64 2]))
 (bcase (decide (IntKind.i64.wrap (-60000 + s_2.fst) > 5400000)) (K (Value.tuple #[Value.agg #[Value.int IntKind.i64 0, Value.int IntKind.i64 0], Value.int IntKind.i64 2])) (K (Value.tuple #[Value.agg #[Value.int IntKind.i64 (IntKind.i64.wrap (IntKind.i64.wrap (-60000 + s.fst) - 1)), Value.int IntKind.i64 (IntKind.i64.wrap (-60000 + s_2.fst))], Value.int IntKind.i64 0])))))))) := by kernel_rfl
theorem vc_rfap2 (u r q a b : Int) (K : Value → Prop) : kcallsX Tryz.prog ([]) (noAnn) 28 [num u, wid r q] [[num a, num b]] K = (
 K (Value.bool (decide (IntKind.i64.wrap (u - r) > a)))) := by kernel_rfl
theorem vc_rfap3 (u r q a b : Int) (K : Value → Prop) : kcallsX Tryz.prog ([]) (noAnn) 29 [num u, wid q r] [[num a, num b]] K = (
 K (Value.bool (decide (IntKind.i64.wrap (u - r) ≥ b)))) := by kernel_rfl
end Go.Proofs.YtikbpleaaaeibaaGreat
