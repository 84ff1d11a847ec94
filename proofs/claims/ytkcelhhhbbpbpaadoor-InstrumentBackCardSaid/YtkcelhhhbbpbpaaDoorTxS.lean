/- Lists for the reference's texts of angles. -/
import Derived.Test.YtkcelhhhbbpbpaaDoorCtC
import Derived.Test.YtkcelhhhbbpbpaaDoorParF
namespace Go.Proofs.YtkcelhhhbbpbpaaDoor
open Go Go.Abs Go.RowKit
set_option linter.unusedVariables false
def digB (n k : Int) : ByteArray := ⟨(digL n.toNat k.toNat).toArray⟩
def DgOk (n k : Int) : Prop := 0 ≤ n ∧ n ≤ 1099511627776 ∧ 0 ≤ k ∧ k ≤ 9
def sDigits : FSpec := fun | [.int .i64 n, .int .i64 k] => some (DgOk n k, .string (digB n k)) | _ => none
def sRound : FSpec := fun | [.int .i64 n] => some (-2199023255552 ≤ n ∧ n ≤ 2199023255552, num (rnd n)) | _ => none
/-- The reference's digits: what is left, and the digits so far. -/
def annDig (N K : Int) : Ann where
  σ := Nat × List UInt8
  st := fun s x => ⟨lset (lset (lset (keepA s 25 []) 0 (.v (.int .i64 x.1))) 1 (.v (.int .i64 (K - x.2.length)))) 5 (.v (.string ⟨x.2.toArray⟩)), s.hp⟩
  inv := fun _ x => (x.1 : Int) ≤ N ∧ digL x.1 (K - x.2.length).toNat ++ x.2 = digL N.toNat K.toNat
  μ := fun _ x => x.1 + (K - x.2.length).toNat
def ADig (N K : Int) : FuncId → List (Nat × LoopBy) := fun _ => [(0, .ann (annDig N K))]
def ΓTx : List (FuncId × CSpec) := [(32, .v sDigits)]
def ΓP5 : List (FuncId × CSpec) := [(19, .v sTextI)]
def ΓR5 : List (FuncId × CSpec) := []
def sPar (pv pe : ByteArray → Int) : FSpec := fun | [.string s] => some (SL s, pair (num (pv s)) (num (pe s))) | _ => none
end Go.Proofs.YtkcelhhhbbpbpaaDoor
