/- Refraction: what the tables hold. -/
import Derived.Test.YtidhogcijghogaaGreatDoorRfrE
import Derived.Test.YtidhogcijghogaaGreatDoorRfrG
import Derived.Test.YtidhogcijghogaaGreatDoorMrgD
namespace Go.Proofs.YtidhogcijghogaaGreatDoor
open Go Go.Abs Go.RowKit
set_option linter.unusedVariables false
set_option linter.unusedSimpArgs false
/-- A line of a table. -/
def lineU (u : Int) : ByteArray := Dp.textB u ++ ⟨[32].toArray⟩ ++ Dp.printB (oneL u) (oneH u)
def okTb (f t s : Int) : Prop := -60000 ≤ f ∧ f ≤ 5400000 ∧ -60000 ≤ t ∧ t ≤ 5400000 ∧ f ≤ t ∧ 1 ≤ s ∧ s ≤ 5400000
instance (f t s : Int) : Decidable (okTb f t s) := by unfold okTb; infer_instance
def fewT (f t s : Int) : Prop := (t - f) / s < 1000
instance (f t s : Int) : Decidable (fewT f t s) := by unfold fewT; infer_instance
def nTb (f t s : Int) : Nat := ((t - f) / s).toNat + 1
def linesU (f s : Int) (k : Nat) : List ByteArray := (List.range k).map fun (i : Nat) => lineU (f + (i : Int) * s)
def tabU (f t s : Int) : List ByteArray := if okTb f t s ∧ fewT f t s then linesU f s (nTb f t s) else []
def tabUE (f t s : Int) : Int := if okTb f t s then (if fewT f t s then 0 else 4) else 2
abbrev bR (l : List ByteArray) : CD := .r 9 .str l
abbrev oV (x : Value) : AD := .one (.v x)
def annTbU (sl : Nat) (ks : List Nat) (f t s : Int) : Ann where
  σ := Nat
  st := fun st k => ⟨lset (lset (keepA st 60 ks) 9 (.v (.int .i64 (f + (k : Int) * s)))) 8 (.os st.hp.length (linesU f s k).length), st.hp ++ [⟨9, [], some true, some ⟨.str, linesU f s k, false⟩⟩, deadB]⟩
  inv := fun _ k => k ≤ nTb f t s
  μ := fun _ k => nTb f t s - k
def ATbU (f t s : Int) : FuncId → List (Nat × LoopBy) := fun _ => [(1, .ann (annTbU 9 [1, 2] f t s))]
def ATbR (f t s : Int) : FuncId → List (Nat × LoopBy) := fun _ => [(0, .ann (annTbU 9 [1, 2] f t s))]
def sTxU : FSpec := fun | [.int .i64 u] => some (RU u, pair (.string (Dp.textB u)) (num 0)) | _ => none
def sTxR : FSpec := fun | [.int .i64 u] => some (RU u, .string (Dp.textB u)) | _ => none
def PrOk (a b : Int) : Prop := a ≤ b ∧ -1000 ≤ a ∧ b ≤ 100000
def sPrU : FSpec := fun | [.agg ⟨[.int .i64 a, .int .i64 b]⟩] => some (PrOk a b, pair (.string (Dp.printB a b)) (num 0)) | _ => none
def ΓTxU : List (FuncId × CSpec) := [(21, .v (fun | [.int .i64 n] => some (True, .bool (decide (Dp.Fit n))) | _ => none)), (22, .v (fun | [.int .i64 n] => some (Dp.Fit n, .string (Dp.textB n)) | _ => none))]
def ΓTbU : List (FuncId × CSpec) := [(11, .v sTxU), (13, .v sOne), (12, .v sPrU)]
def ΓTbR : List (FuncId × CSpec) := [(16, .v sTxR), (15, .v sOne), (14, .v sPrU)]
/-- The tables, by a name. -/
def sTbC (tb : Int → Int → Int → List ByteArray) (te : Int → Int → Int → Int) : RSpec := fun | [.one (.v (.int .i64 f)), .one (.v (.int .i64 t)), .one (.v (.int .i64 s))] => some (I64 f ∧ I64 t ∧ I64 s, [.one (.r 9 .str (tb f t s)), .one (.v (num (te f t s)))]) | _ => none
def EqOk (xs ys : List ByteArray) : Prop := xs.length ≤ 9223372036854775807 ∧ ys.length ≤ 9223372036854775807
def ΓLt20 (tb : Int → Int → Int → List ByteArray) (te : Int → Int → Int → Int) : List (FuncId × CSpec) := [(4, .v sYes20), (5, .r (sTbC tb te)), (6, .r (sTbC tb te)),
  (7, .r (fun | [.one (.r 9 .str xs), .one (.r 9 .str ys)] => some (EqOk xs ys, [.one (.v (.bool (decide (xs = ys))))]) | _ => none))]
end Go.Proofs.YtidhogcijghogaaGreatDoor
