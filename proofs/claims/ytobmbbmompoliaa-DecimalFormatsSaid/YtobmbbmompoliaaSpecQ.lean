/- Reading a number's own text. -/
import Derived.Test.YtobmbbmompoliaaSpecM
namespace Go.Proofs.Ytobmbbmompoliaa
open Go Go.Abs Go.RowKit
set_option linter.unusedVariables false
def AllD (s : ByteArray) : Prop := s.data.toList.length ≤ 1000 ∧ s.data.toList ≠ [] ∧ ∀ b ∈ s.data.toList, 48 ≤ b.toNat ∧ b.toNat ≤ 57
def sAllD : FSpec := fun | [.string s, .func (.func 26) ⟨[]⟩ ⟨[]⟩] => some (AllD s, .bool true) | _ => none
def annAllD (N : Nat) : Ann where
  σ := Nat
  st := fun s i => ⟨lset (keepA s 20 [0, 1, 7]) 8 (.v (.int .i64 i)), s.hp⟩
  inv := fun _ i => i ≤ N
  μ := fun _ i => N - i
def AAllD (N : Nat) : FuncId → List (Nat × LoopBy) := fun _ => [(0, .ann (annAllD N))]
/-- The number that digits stand for. -/
def decN (l : List UInt8) : Nat := l.foldl (fun a b => 10 * a + (b.toNat - 48)) 0
def decP (l : List UInt8) (i : Nat) : Int := (decN (l.take i) : Nat)
def annPar (l : List UInt8) : Ann where
  σ := Nat
  st := fun s i => ⟨lset (lset (keepA s 91 [0, 1, 7, 68, 69]) 11 (.v (.int .i64 (decP l i)))) 70 (.v (.int .i64 i)), s.hp⟩
  inv := fun _ i => i ≤ l.length
  μ := fun _ i => l.length - i
def APar (l : List UInt8) : FuncId → List (Nat × LoopBy) := fun _ => [(0, .ann (annPar l))]
def CP (s q b : ByteArray) (mi : Bool) : Prop := (⟨(Lib.trimPrefix s.data.toList q.data.toList).toArray⟩ : ByteArray) = b ∧ Lib.hasPrefix s.data.toList q.data.toList = mi
def CT (s q w p : ByteArray) (po : Bool) : Prop := ShortS s ∧ (⟨(Lib.cut s.data.toList q.data.toList).1.toArray⟩ : ByteArray) = w ∧ (⟨(Lib.cut s.data.toList q.data.toList).2.1.toArray⟩ : ByteArray) = p ∧ (Lib.cut s.data.toList q.data.toList).2.2 = po
def RP (s : ByteArray) (c : Int) (z : ByteArray) : Prop := RepOk s c ∧ (⟨(Lib.repeatL s.data.toList c.toNat).toArray⟩ : ByteArray) = z
def ΓPa (b w p z : ByteArray) (mi po : Bool) : List (FuncId × CSpec) := [(23, .v (fun | [.string s, .string q] => some (CP s q b mi, .tuple ⟨[.string b, .bool mi]⟩) | _ => none)),
  (24, .v (fun | [.string s, .string q] => some (CT s q w p po, .tuple ⟨[.string w, .string p, .bool po]⟩) | _ => none)),
  (27, .v (fun | [.string s, .int .i64 c] => some (RP s c z, .string z) | _ => none)), (25, .v sAllD)]
def PF (s : ByteArray) (k : Int) : Prop := ∃ n, FOk n k ∧ s = fB n k
def valF (s : ByteArray) : Int := (if s.data.toList.head? = some 45 then -1 else 1) * ((decN (s.data.toList.filter fun b => Nat.ble 48 b.toNat) : Nat) : Int)
def sParseF : FSpec := fun | [.string s, .int .i64 k] => some (PF s k, pair (num (valF s)) (num 0)) | _ => none
def ΓFm : List (FuncId × CSpec) := [(10, .v sParseF), (7, .v sYes), (8, .v sFormat), (9, .v sFits), (11, .v sFormatI)]
end Go.Proofs.Ytobmbbmompoliaa
