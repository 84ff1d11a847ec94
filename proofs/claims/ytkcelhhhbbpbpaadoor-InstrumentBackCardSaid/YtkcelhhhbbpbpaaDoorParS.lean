/- What is known ahead of the walks that read texts of angles: the heads of the loops, and lists of callees. -/
import Derived.Test.YtkcelhhhbbpbpaaDoorProg
import Derived.Test.YtkcelhhhbbpbpaaDoorBackP
namespace Go.Proofs.YtkcelhhhbbpbpaaDoor
open Go Go.Abs Go.RowKit
set_option linter.unusedVariables false
def SL (s : ByteArray) : Prop := s.data.toList.length ≤ 4000
structure AllDg (l : List UInt8) (i : Nat) : Prop where
  le : i ≤ l.length
  all : (l.take i).all dig = true
def dcI (l : List UInt8) (i : Nat) : Int := ((min (decN (l.take i)) 1125899906842624 : Nat) : Int)
def annD (l : List UInt8) : Ann where
  σ := Nat
  st := fun s i => ⟨lset (lset (keepA s 31 [0, 8, 9]) 4 (.v (.int .i64 (dcI l i)))) 10 (.v (.int .i64 i)), s.hp⟩
  inv := fun _ i => AllDg l i
  μ := fun _ i => l.length - i
def ADg (l : List UInt8) : FuncId → List (Nat × LoopBy) := fun _ => [(0, .ann (annD l))]
def tenI (x : Int) (i : Nat) : Int := x * 10 ^ i
def annT : Ann where
  σ := Nat
  st := fun s i => ⟨lset (lset (keepA s 112 [0, 4, 5, 6, 7, 8, 9, 10, 11, 12, 13, 14, 15, 61]) 16 (.v (.int .i64 (tenI (intA s 16) i)))) 62 (.v (.int .i64 i)), s.hp⟩
  inv := fun s i => (i : Int) ≤ intA s 61
  μ := fun s i => (intA s 61).toNat - i
def APs : FuncId → List (Nat × LoopBy) := fun _ => [(0, .ann annT)]
def ΓPs (tp cw cp : ByteArray → ByteArray → ByteArray) (mi co : ByteArray → ByteArray → Bool) (dg : ByteArray → Int) (ok : ByteArray → Bool) : List (FuncId × CSpec) := [
  (59, .v (fun | [.string s, .string q] => some (SL s, .tuple ⟨[.string (tp s q), .bool (mi s q)]⟩) | _ => none)),
  (60, .v (fun | [.string s, .string q] => some (SL s, .tuple ⟨[.string (cw s q), .string (cp s q), .bool (co s q)]⟩) | _ => none)),
  (61, .v (fun | [.string s] => some (SL s, .tuple ⟨[.int .i64 (dg s), .bool (ok s)]⟩) | _ => none))]
/-! The reference's way. -/
def drF (l : List UInt8) : Nat := l.foldl (fun d b => if d ≤ 1099511627776 then 10 * d + (b.toNat - 48) else d) 0
def drI (l : List UInt8) (i : Nat) : Int := ((drF (l.take i) : Nat) : Int)
def annR (l : List UInt8) : Ann where
  σ := Nat
  st := fun s i => ⟨lset (lset (keepA s 175 [0, 2, 3, 4, 6]) 5 (.v (.int .i64 (intA s 6 + i)))) 7 (.v (.int .i64 (drI l i))), s.hp⟩
  inv := fun _ i => AllDg l i
  μ := fun _ i => l.length - i
structure RJ (l : List UInt8) (b i d : Int) : Prop where
  at_ : i = b + ((l.takeWhile dig).length : Int)
  num : d = ((drF (l.takeWhile dig) : Nat) : Int)
def joinR (l : List UInt8) : Ann where
  σ := Int × Int
  st := fun s x => ⟨lset (lset (keepA s 175 [0, 2, 3, 4, 6]) 5 (.v (.int .i64 x.1))) 7 (.v (.int .i64 x.2)), s.hp⟩
  inv := fun s x => RJ l (intA s 6) x.1 x.2
  μ := fun _ _ => 0
def frI (q : List UInt8) (k : Nat) : Int := ((decN (q.take k) * 10 ^ (3 - k) : Nat) : Int)
def unI (k : Nat) : Int := ((100 / 10 ^ k : Nat) : Int)
def annF (q : List UInt8) : Ann where
  σ := Nat
  st := fun s k => ⟨lset (lset (lset (keepA s 175 [0, 2, 3, 4, 6, 7, 8]) 5 (.v (.int .i64 (intA s 5 + k)))) 9 (.v (.int .i64 (frI q k)))) 10 (.v (.int .i64 (unI k))), s.hp⟩
  inv := fun _ k => AllDg q k
  μ := fun _ k => q.length - k
def ARs (l q : List UInt8) : FuncId → List (Nat × LoopBy) := fun _ => [(0, .annJ (annR l) (joinR l)), (2, .ann (annF q))]
end Go.Proofs.YtkcelhhhbbpbpaaDoor
