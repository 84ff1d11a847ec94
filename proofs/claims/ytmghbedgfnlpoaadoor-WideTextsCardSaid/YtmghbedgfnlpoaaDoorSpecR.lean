/- The reference's numbers: lists of digits of base 2^28, the least one first. -/
import Derived.Test.YtmghbedgfnlpoaaDoorSpecW
namespace Go.Proofs.YtmghbedgfnlpoaaDoor
open Go Go.Abs Go.RowKit
set_option linter.unusedVariables false
set_option linter.unusedSimpArgs false
/-- The digits of a number. -/
def digF : Nat → Nat → List Int
  | 0, _ => []
  | k + 1, v => if v = 0 then [] else ((v % 268435456 : Nat) : Int) :: digF k (v / 268435456)
def dig (v : Nat) : List Int := digF v v
/-- The value of digits. -/
def dvI : List Int → Int
  | [] => 0
  | x :: l => x + 268435456 * dvI l
/-- Digits, all in their bounds. -/
def Dgs (l : List Int) : Prop := ∀ x ∈ l, 0 ≤ x ∧ x < 268435456
/-- Digits without zeros at the end. -/
def trimI (l : List Int) : List Int := dig (dvI l).toNat
/-- A slice of digits. -/
abbrev dR (l : List Int) : CD := .r 3 (.int .i64) l
/-- A number as the reference has it. -/
abbrev numR (v : Int) : AD := .agg [dR (dig v.natAbs), .v (.bool (decide (v < 0)))]
/-- The value of digits, as a natural number. -/
abbrev nv (l : List Int) : Nat := (dvI l).toNat
/-- Digits without zeros at the end, not too many. -/
def Can (l : List Int) : Prop := l = dig (nv l) ∧ l.length ≤ 50
/-- A block of the call's own that holds a row of ints; it may lie nowhere while it is empty. -/
abbrev rowB (l : List Int) : List Blk := [⟨3, [], some true, some ⟨.int .i64, l, false⟩⟩, deadB]
/-- A cell of a block is set. -/
def cellA (hp : List Blk) (k i : Nat) (a : AV) : List Blk := match hp[k]? with | some b => bset hp k { b with cs := lset b.cs i a } | none => hp
/-- A block's row is set. -/
def rowA (hp : List Blk) (k : Nat) (l : List Int) : List Blk := match hp[k]? with | some b => bset hp k { b with row := some ⟨.int .i64, l, true⟩ } | none => hp
/-- A slot's block. -/
def blkA (st : AS) (i : Nat) : Nat := match lget st.tm i with | .p k _ => k | .rs k _ => k | .os k _ => k | .ps k _ _ _ => k | _ => 0
/-- The contracts. -/
def sTrim : RSpec := fun | [.one (.r 3 (.int .i64) l)] => some (Dgs l ∧ l.length ≤ 200, [.one (dR (dig (nv l)))]) | _ => none
def sOfInt : RSpec := fun | [.one (.v (.int .i64 n))] => some (I64 n, [numR n]) | _ => none
def sOrder : RSpec := fun | [.one (.r 3 (.int .i64) a), .one (.r 3 (.int .i64) b)] => some (Can a ∧ Can b, [.one (.v (.int .i64 (ordI (nv a) (nv b))))]) | _ => none
def sSum : RSpec := fun | [.one (.r 3 (.int .i64) a), .one (.r 3 (.int .i64) b)] => some (Can a ∧ Can b, [.one (dR (dig (nv a + nv b)))]) | _ => none
def sLess : RSpec := fun | [.one (.r 3 (.int .i64) a), .one (.r 3 (.int .i64) b)] => some (Can a ∧ Can b ∧ nv b ≤ nv a, [.one (dR (dig (nv a - nv b)))]) | _ => none
def sTimes : RSpec := fun | [.one (.r 3 (.int .i64) a), .one (.r 3 (.int .i64) b)] => some (Can a ∧ Can b, [.one (dR (dig (nv a * nv b)))]) | _ => none
def sOver : RSpec := fun | [.one (.r 3 (.int .i64) a), .one (.r 3 (.int .i64) b)] => some (Can a ∧ Can b ∧ b.length ≤ 40 ∧ nv b ≠ 0, [.one (dR (dig (nv a / nv b))), .one (dR (dig (nv a % nv b)))]) | _ => none
/-- OfInt's loop: what is left, and the digits so far. -/
def annOfInt (n : Int) : Ann where
  σ := Int × List Int
  st := fun s x => ⟨lset (keepA s 25 [1, 2, 3]) 0 (.v (.int .i64 x.1)), cellA s.hp (blkA s 3) 0 (.os s.hp.length x.2.length) ++ rowB x.2⟩
  inv := fun _ x => I64 x.1 ∧ x.2 ++ dig x.1.natAbs = dig n.natAbs ∧ (n < 0 → x.1 ≤ 0) ∧ (¬ n < 0 → 0 ≤ x.1)
  μ := fun _ x => x.1.natAbs
def AOfInt (n : Int) : FuncId → List (Nat × LoopBy) := fun _ => [(0, .ann (annOfInt n))]
/-- Order's loop: what is behind is equal. -/
def annOrder (a b : List Int) : Ann where
  σ := Nat
  st := fun s i => ⟨lset (keepA s 41 [0, 1, 2, 3, 4]) 5 (.v (.int .i64 ((i : Int) - 1))), s.hp⟩
  inv := fun _ i => i ≤ a.length ∧ a.length = b.length ∧ a.drop i = b.drop i
  μ := fun _ i => i
def AOrder (a b : List Int) : FuncId → List (Nat × LoopBy) := fun _ => [(0, .ann (annOrder a b))]
/-- Sum's loop: the carry, and the digits so far. -/
def annSum (a b : List Int) : Ann where
  σ := Int × List Int
  st := fun s x => ⟨lset (lset (lset (keepA s 54 [0, 1, 2, 3, 4]) 5 (.os s.hp.length x.2.length)) 6 (.v (.int .i64 x.1))) 7 (.v (.int .i64 x.2.length)), s.hp ++ rowB x.2⟩
  inv := fun _ x => 0 ≤ x.1 ∧ x.1 ≤ 1 ∧ Dgs x.2 ∧ x.2.length + x.1.toNat ≤ max a.length b.length + 1 ∧ (x.2.length < max a.length b.length ∨ x.1 = 1 ∨ dig (nv x.2) = x.2) ∧ dvI x.2 + 268435456 ^ x.2.length * (x.1 + dvI (a.drop x.2.length) + dvI (b.drop x.2.length)) = dvI a + dvI b
  μ := fun _ x => (a.length - x.2.length) + (b.length - x.2.length) + x.1.toNat
def ASum (a b : List Int) : FuncId → List (Nat × LoopBy) := fun _ => [(0, .ann (annSum a b))]
/-- Less's loop: the borrow, and the digits so far. -/
def annLess (a b : List Int) : Ann where
  σ := Int × List Int
  st := fun s x => ⟨lset (lset (lset (keepA s 41 [0, 1, 2, 3, 4]) 5 (.os s.hp.length x.2.length)) 6 (.v (.int .i64 x.1))) 7 (.v (.int .i64 x.2.length)), s.hp ++ rowB x.2⟩
  inv := fun _ x => 0 ≤ x.1 ∧ x.1 ≤ 1 ∧ Dgs x.2 ∧ x.2.length ≤ a.length ∧ dvI x.2 + 268435456 ^ x.2.length * (dvI (a.drop x.2.length) - dvI (b.drop x.2.length) - x.1) = dvI a - dvI b
  μ := fun _ x => a.length - x.2.length
def ALess (a b : List Int) : FuncId → List (Nat × LoopBy) := fun _ => [(0, .ann (annLess a b))]
/-- Times's loops: the digits so far; inside, the carry and the place too. -/
def annTimes (a b : List Int) : Ann where
  σ := Nat × List Int
  st := fun s x => ⟨lset (keepA s 64 [0, 1, 2, 3, 4, 5]) 6 (.v (.int .i64 x.1)), rowA s.hp (blkA s 5) x.2⟩
  inv := fun _ x => x.1 ≤ a.length ∧ Dgs x.2 ∧ x.2.length = a.length + b.length ∧ dvI x.2 + 268435456 ^ x.1 * (dvI (a.drop x.1) * dvI b) = dvI a * dvI b ∧ dvI (x.2.drop (x.1 + b.length)) = 0
  μ := fun _ x => a.length - x.1
def annTimesK (a b : List Int) : Ann where
  σ := Nat × Int × List Int
  st := fun s x => ⟨lset (lset (keepA s 64 [0, 1, 2, 3, 4, 5, 6]) 7 (.v (.int .i64 x.2.1))) 8 (.v (.int .i64 x.1)), rowA s.hp (blkA s 5) x.2.2⟩
  inv := fun s x => x.1 ≤ b.length ∧ 0 ≤ x.2.1 ∧ x.2.1 < 268435456 ∧ Dgs x.2.2 ∧ x.2.2.length = a.length + b.length ∧ dvI x.2.2 + 268435456 ^ ((intA s 6).toNat + x.1) * (x.2.1 + a.getD (intA s 6).toNat 0 * dvI (b.drop x.1)) + 268435456 ^ ((intA s 6).toNat + 1) * (dvI (a.drop ((intA s 6).toNat + 1)) * dvI b) = dvI a * dvI b ∧ dvI (x.2.2.drop ((intA s 6).toNat + b.length)) = 0
  μ := fun _ x => b.length - x.1
def ATimes (a b : List Int) : FuncId → List (Nat × LoopBy) := fun _ => [(0, .ann (annTimes a b)), (2, .ann (annTimesK a b))]
def ΓDg : List (FuncId × CSpec) := [(40, .r sTrim)]
/-- The value of the digits in slot 6's row. -/
def restA (st : AS) : Int := match st.hp[blkA st 6]? with | some b => (match b.row with | some ⟨.int _, l, _⟩ => dvI l | _ => 0) | none => 0
/-- Over's loops: how many digits are still to come, the rest, and the quotient's digits; inside, the bounds of the digit. -/
def annOver (a b : List Int) : Ann where
  σ := Nat × Nat × List Int
  st := fun s x => ⟨lset (lset (keepA s 62 [0, 1, 2, 3, 4, 5, 7]) 6 (.ps s.hp.length 0 1 (dig x.2.1).length)) 8 (.v (.int .i64 ((x.1 : Int) - 1))), rowA s.hp (blkA s 7) x.2.2 ++ rowB (dig x.2.1)⟩
  inv := fun _ x => x.1 ≤ a.length ∧ x.2.1 < nv b ∧ Dgs x.2.2 ∧ x.2.2.length = a.length ∧ dvI (a.drop x.1) = dvI (x.2.2.drop x.1) * dvI b + x.2.1
  μ := fun _ x => x.1
/-- The least digit is sought. -/
def annOverK (b : List Int) : Ann where
  σ := Int × Int
  st := fun s x => ⟨lset (lset (keepA s 62 [0, 1, 2, 3, 4, 5, 6, 7, 8]) 9 (.v (.int .i64 x.1))) 10 (.v (.int .i64 x.2)), s.hp⟩
  inv := fun s x => 0 ≤ x.1 ∧ x.1 ≤ x.2 ∧ x.2 < 268435456 ∧ x.1 * dvI b ≤ restA s ∧ restA s < (x.2 + 1) * dvI b
  μ := fun _ x => (x.2 - x.1).toNat
def AOver (a b : List Int) : FuncId → List (Nat × LoopBy) := fun _ => [(0, .ann (annOver a b)), (2, .ann (annOverK b))]
def ΓDo : List (FuncId × CSpec) := [(40, .r sTrim), (41, .r sOrder), (42, .r sTimes), (43, .r sLess)]
/-- Trim's loop: all behind are 0. -/
def annTrim (l : List Int) : Ann where
  σ := Nat
  st := fun s i => ⟨lset (keepA s 23 [0, 1, 2]) 3 (.v (.int .i64 i)), s.hp⟩
  inv := fun _ i => i ≤ l.length ∧ dvI (l.take i) = dvI l
  μ := fun _ i => i
def ATrim (l : List Int) : FuncId → List (Nat × LoopBy) := fun _ => [(0, .ann (annTrim l))]
end Go.Proofs.YtmghbedgfnlpoaaDoor
