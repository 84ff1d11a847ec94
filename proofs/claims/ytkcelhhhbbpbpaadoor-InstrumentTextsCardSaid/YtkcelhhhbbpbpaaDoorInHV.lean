/- What the program's reading of a text of an instrument asks. -/
import Derived.Test.YtkcelhhhbbpbpaaDoorInHS
namespace Go.Proofs.YtkcelhhhbbpbpaaDoor
open Go Go.Abs Go.RowKit
set_option linter.unusedVariables false
set_option linter.unusedSimpArgs false
theorem vc_hPre (s : ByteArray) : (codeX Tryd.prog [] (runX Tryd.prog [] noAnn 3) [] 0 (.seq hR0 (.seq hR1 (.seq hR2 hR3))) ⟨[.v (.string s)] ++ repl (nTm - 1), []⟩ (fun e st => Abs.X.casesOn e (stLeR 0 st ⟨tmA, hpI ⟨0, [], 1⟩ s⟩) (fun _ => False) False)) = (
  (33 = 33 ∧ [(5, 0)] = [(5, 0)]) ∧ Int.ofNat 0 = 0 ∧ Value.slice none 0 0 = Value.slice none 0 0 ∧ Int.ofNat 0 = 0 ∧ Int.ofNat 0 = 0 ∧ Int.ofNat 0 = 0 ∧ Int.ofNat 0 = 0 ∧ 0 = 0 ∧ 1 = ((1 : Nat) : Int) ∧ Int.ofNat 1 = 1 ∧ s = s ∧ ([] : List (Int × Int)) = [] ∧ True) := by kernel_rfl
theorem vc_hBody (x : ByteArray) (k : Int) (xs : List (Int × Int)) (ln : Nat) (u : ByteArray) (NI : HSt → Prop) (NX : Nat → Prop) (lr : ByteArray → Int → List Int) (lo : ByteArray → Int → Bool) : (codeX Tryd.prog (ΓHs lr lo) noInl [] 0 hBo ⟨tmB x, hpI ⟨k, xs, ln⟩ u⟩ (bodyK 6 tmN (fun s => hpI s u) (fun t => hpX t u) NI NX)) = (
 bcase ((↑ln : Int) == 1)
 (LnOk x (ByteArray.mk #[105, 110, 100, 101, 120]) 1 ∧
 bcase (!lo x 1) (∃ (s : Nat), (Int.ofNat 0 = 0 ∧ Value.slice none 0 0 = Value.slice none 0 0 ∧ (↑ln : Int) = (↑s : Int) ∧ Int.ofNat 1 = 1 ∧ Int.ofNat 7 = 7 ∧ u = u ∧ True) ∧ NX s)
 (bcase (inB 0 (lr x 1).length) (bcase (Nat.blt 0 (lr x 1).length) (∃ (s : HSt), (Int.ofNat 0 = 0 ∧ Value.slice none 0 0 = Value.slice none 0 0 ∧ Int.ofNat 0 = 0 ∧ Int.ofNat 0 = 0 ∧ Int.ofNat 0 = 0 ∧ (lr x 1).getD 0 0 = s.1 ∧ xs.length = s.2.length ∧ IntKind.i64.wrap ((↑ln : Int) + 1) = (↑s.3 : Int) ∧ Int.ofNat 1 = 1 ∧ u = u ∧ xs = s.2 ∧ True) ∧ NI s) False) False))
 (LnOk x (ByteArray.mk #[101, 114, 114, 111, 114]) 2 ∧
 bcase (!lo x 2) (∃ (s : Nat), (Int.ofNat 0 = 0 ∧ Value.slice none 0 0 = Value.slice none 0 0 ∧ (↑ln : Int) = (↑s : Int) ∧ Int.ofNat 1 = 1 ∧ Int.ofNat 7 = 7 ∧ u = u ∧ True) ∧ NX s)
 (bcase (inB 0 (lr x 2).length)
 (bcase (Nat.blt 0 (lr x 2).length)
 (bcase (inB 1 (lr x 2).length)
 (bcase (Nat.blt 1 (lr x 2).length)
 (xs.length = xs.length ∧
 bcase (capOk (xs.length + 1) 16) (∃ (s : HSt), (Int.ofNat 0 = 0 ∧ Value.slice none 0 0 = Value.slice none 0 0 ∧ Int.ofNat 0 = 0 ∧ Int.ofNat 0 = 0 ∧ Int.ofNat 0 = 0 ∧ k = s.1 ∧ xs.length + 1 = s.2.length ∧ xs.length + 1 ≠ 0 ∧ IntKind.i64.wrap ((↑ln : Int) + 1) = (↑s.3 : Int) ∧ Int.ofNat 1 = 1 ∧ u = u ∧ xs ++ [((lr x 2).getD 0 0, (lr x 2).getD 1 0)] = s.2 ∧ True) ∧ NI s) False)
 False)
 False)
 False)
 False))) := by kernel_rfl
theorem vc_hEnd (s : ByteArray) (k : Int) (xs : List (Int × Int)) (ln : Nat) (u : ByteArray) (vd : Int → List (Int × Int) → Bool) (rk : Int) (rt : List (Int × Int)) (rl rc re : Int) : (codeX Tryd.prog (ΓHe vd) noInl [] 0 hC2 ⟨tmA, hpI ⟨k, xs, ln⟩ u⟩ (endK Tryd.prog Tryd.f10 (retK [.v (.string s)] [insA rk rt, .one (.v (posV rl rc)), .one (.v (num re))]))) = (
 bcase ((↑ln : Int) == 1) (Value.int IntKind.i64 0 = Value.int IntKind.i64 rk ∧ [] = rt ∧ Value.agg #[Value.int IntKind.i64 (↑ln : Int), Value.int IntKind.i64 1] = Value.agg #[Value.int IntKind.i64 rl, Value.int IntKind.i64 rc] ∧ Value.int IntKind.i64 7 = Value.int IntKind.i64 re ∧ True)
 (xs.length = xs.length ∧
 ∀ (z : List (Int × Int)),
 z = xs →
 True ∧
 bcase (!vd (HSt.mk k xs ln).k z) (Value.int IntKind.i64 0 = Value.int IntKind.i64 rk ∧ [] = rt ∧ Value.agg #[Value.int IntKind.i64 0, Value.int IntKind.i64 0] = Value.agg #[Value.int IntKind.i64 rl, Value.int IntKind.i64 rc] ∧ Value.int IntKind.i64 1 = Value.int IntKind.i64 re ∧ True)
 (Value.int IntKind.i64 k = Value.int IntKind.i64 rk ∧ xs.length = xs.length ∧ xs = rt ∧ Value.agg #[Value.int IntKind.i64 0, Value.int IntKind.i64 0] = Value.agg #[Value.int IntKind.i64 rl, Value.int IntKind.i64 rc] ∧ Value.int IntKind.i64 0 = Value.int IntKind.i64 re ∧ True))) := by kernel_rfl
theorem vc_hStop (s : ByteArray) (ln : Nat) (u : ByteArray) (rk : Int) (rt : List (Int × Int)) (rl rc re : Int) : (endK Tryd.prog Tryd.f10 (retK [.v (.string s)] [insA rk rt, .one (.v (posV rl rc)), .one (.v (num re))]) .ret ⟨tmA, hpX ln u⟩) = (
 Value.int IntKind.i64 0 = Value.int IntKind.i64 rk ∧ [] = rt ∧ Value.agg #[Value.int IntKind.i64 (↑ln : Int), Value.int IntKind.i64 1] = Value.agg #[Value.int IntKind.i64 rl, Value.int IntKind.i64 rc] ∧ Value.int IntKind.i64 7 = Value.int IntKind.i64 re ∧ True) := by kernel_rfl
theorem tmLe_A : tmLeR [0, 1, 2, 3, 4, 5] tmA tmA = (True ∧ True ∧ (0 = 0 ∧ 0 = 0) ∧ (1 = 1 ∧ 0 = 0) ∧ (2 = 2 ∧ 0 = 0) ∧ (3 = 3 ∧ 0 = 0) ∧ (4 = 4 ∧ 0 = 0) ∧ True ∧ True ∧ True ∧ True ∧ True ∧ True ∧ True ∧ (33 = 33 ∧ [(5, 0)] = [(5, 0)]) ∧ True ∧ True ∧ True ∧ True ∧ True ∧ True ∧ True ∧ True ∧ True ∧ True ∧ True ∧ True ∧ True ∧ True ∧ True ∧ True ∧ True ∧ True ∧ True ∧ True ∧ True ∧ True ∧ True ∧ True ∧ True ∧ True ∧ True ∧ True ∧ True ∧ True ∧ True ∧ True ∧ True ∧ True ∧ True ∧ True ∧ True ∧ True ∧ True ∧ True ∧ True ∧ True ∧ True ∧ True ∧ True ∧ True ∧ True ∧ True ∧ True ∧ True ∧ True ∧ True ∧ True ∧ True ∧ True ∧ True ∧ True) := by kernel_rfl
end Go.Proofs.YtkcelhhhbbpbpaaDoor
