/- The reference's quick sine and its floor: what they answer. -/
import Derived.Test.YtidhogcijghogaaGreatDoorTrgG
namespace Go.Proofs.YtidhogcijghogaaGreatDoor
open Go Go.Abs Go.RowKit Go.Sine
set_option linter.unusedVariables false
def B62 (a : Int) : Prop := 0 ≤ a ∧ a ≤ 4611686018427387904
def hiI (a b : Int) : Int := (hi a.toNat b.toNat : Nat)
def sHigh : FSpec := fun | [.int .i64 a, .int .i64 b] => some (B62 a ∧ B62 b, .int .i64 (hiI a b)) | _ => none
/-- The quick sine or cosine of an angle up to an eighth of a turn. -/
def qqI (r : Int) (c : Bool) : Int := bif c then qc r.toNat else qs r.toNat
def sQuick1 : FSpec := fun | [.int .i64 r, .bool c] => some (0 ≤ r ∧ r ≤ 2700000, .int .i64 (qqI r c)) | _ => none
structure Qk where
  k : Nat
  s : Int
  t : Nat
  d : Nat
/-- Between two rounds of the quick sine: what is summed, and what is still to come. -/
structure QkR (T : Int) (sq : Nat) (k : Nat) (s : Int) (t d : Nat) : Prop where
  le : k ≤ 6
  d0 : 1 ≤ d
  d1 : d + 4 * k ≤ 26
  t1 : t < prod d (2 * k)
  sum : s + qk (2 * k) t sq d = T
  s0 : 0 ≤ s ∧ s + t ≤ 4611686018427387904
def annQk (T : Int) (sq : Nat) : Ann where
  σ := Qk
  st := fun s x => ⟨lset (lset (lset (keepA s 50 [6]) 7 (.v (.int .i64 x.t))) 8 (.v (.int .i64 x.d))) 9 (.v (.int .i64 x.s)), s.hp⟩
  inv := fun s x => QkR T sq x.k x.s x.t x.d
  μ := fun _ x => x.k
def AQk (T : Int) (sq : Nat) : FuncId → List (Nat × LoopBy) := fun _ => [(0, .ann (annQk T sq))]
def once : FuncId → List (Nat × LoopBy) := fun _ => [(0, .times 1)]
/-- The quick sine of any angle. -/
def mI (n : Int) : Int := n % 21600000
def halfI (m : Int) : Int := if m % 5400000 > 2700000 then 5400000 - m % 5400000 else m % 5400000
def cosB (m : Int) : Bool := if m % 5400000 > 2700000 then !(decide (m / 5400000 % 2 = 1)) else decide (m / 5400000 % 2 = 1)
def quickI (n : Int) : Int := if 2 ≤ mI n / 5400000 then - qqI (halfI (mI n)) (cosB (mI n)) else qqI (halfI (mI n)) (cosB (mI n))
def sQuick : FSpec := fun | [.int .i64 n] => some (I64 n, .int .i64 (quickI n)) | _ => none
/-- The arc of the first quarter with the same sine, but for its sign, and the ends of this. -/
def southB (n : Int) : Bool := decide (10800000 < mI n)
def quartI (n : Int) : Int := if 10800000 < mI n then (if 5400000 < mI n - 10800000 then 21600000 - mI n else mI n - 10800000) else (if 5400000 < mI n then 10800000 - mI n else mI n)
def upI (m : Int) : Int := if exB m then sinP m else sinP m + 1
def loI (n : Int) : Int := if southB n then - upI (quartI n) else sinP (quartI n)
def hiE (n : Int) : Int := if southB n then - sinP (quartI n) else upI (quartI n)
def exN (n : Int) : Bool := exB (quartI n)
def sExact : FSpec := fun | [.int .i64 n] => some (I64 n, pair (num (if exN n then loI n else 0)) (.bool (exN n))) | _ => none
def no2 : FSpec := fun | [_, _] => some (False, undef) | _ => none
def no1 : FSpec := fun | [_] => some (False, undef) | _ => none
def sFloor6 : FSpec := fun | [.int .i64 n] => some (I64 n, pair (num (loI n)) (.bool (exN n))) | _ => none
def ΓQ1 : List (FuncId × CSpec) := [(131, .v sHigh)]
def ΓQ2 : List (FuncId × CSpec) := [(121, .v sQuick1)]
def ΓQf : List (FuncId × CSpec) := [(100, .v sExact), (101, .v sQuick), (103, .v no2)]
end Go.Proofs.YtidhogcijghogaaGreatDoor
