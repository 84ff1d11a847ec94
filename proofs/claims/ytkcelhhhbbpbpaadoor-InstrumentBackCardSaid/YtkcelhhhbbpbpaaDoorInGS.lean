/- The reference's reading of a text of an instrument: the head of its loop. -/
import Derived.Test.YtkcelhhhbbpbpaaDoorInS
namespace Go.Proofs.YtkcelhhhbbpbpaaDoor
open Go Go.Abs Go.RowKit
set_option linter.unusedVariables false
abbrev rowE (l : List (Int × Int)) : List Blk := [⟨48, [], some true, some ⟨pE2, l, false⟩⟩, deadB]
/-- A cell of a block is set. -/
def cellA (hp : List Blk) (k i : Nat) (a : AV) : List Blk := match hp[k]? with | some b => bset hp k { b with cs := lset b.cs i a } | none => hp
def blkA (st : AS) (i : Nat) : Nat := match lget st.tm i with | .p k _ => k | .rs k _ => k | .os k _ => k | .ps k _ _ _ => k | _ => 0
structure RpI (L : List UInt8) (n a : Nat) (k : Int) (t : List (Int × Int)) : Prop where
  le : a ≤ L.length
  n0 : n = 0 → a = 0 ∧ t = []
  n1 : n ≠ 0 → 10 ∈ L ∧ idxL (lnH L) = some k ∧ pEL (L.drop a) t (n + 1) = pEL (lnT L) [] 2
  na : n ≤ a
  nt : t.length ≤ n
def annRp (L : List UInt8) : Ann where
  σ := Nat × Nat × Int × List (Int × Int)
  st := fun s x => ⟨lset (lset (keepA s 83 [0, 2, 3, 4, 5]) 6 (.v (.int .i64 (x.1 : Int)))) 7 (.v (.int .i64 (x.2.1 : Int))), cellA (cellA s.hp (blkA s 5) 0 (.v (num x.2.2.1))) (blkA s 5) 1 (.os s.hp.length x.2.2.2.length) ++ rowE x.2.2.2⟩
  inv := fun _ x => RpI L x.1 x.2.1 x.2.2.1 x.2.2.2
  μ := fun _ x => L.length + 1 - x.2.1
def ARp (L : List UInt8) : FuncId → List (Nat × LoopBy) := fun _ => [(0, .ann (annRp L))]
def LkOk (s : ByteArray) (a : Int) : Prop := SL s ∧ 0 ≤ a ∧ a ≤ s.size
def ΓRp (lx : ByteArray → Int → ByteArray) (lo : ByteArray → Int → Bool) (wd : ByteArray → ByteArray → ByteArray) (wo : ByteArray → ByteArray → Bool) (iv : ByteArray → Int) (io : ByteArray → Bool) (e1 e2 : ByteArray → Int) (eo : ByteArray → Bool) (vd : Int → List (Int × Int) → Bool) : List (FuncId × CSpec) := [
  (22, .v (fun | [.string s, .int .i64 a] => some (LkOk s a, .tuple ⟨[.string (lx s a), .bool (lo s a)]⟩) | _ => none)),
  (23, .v (fun | [.string s, .string q] => some (WdOk s q, .tuple ⟨[.string (wd s q), .bool (wo s q)]⟩) | _ => none)),
  (24, .v (fun | [.string s] => some (SL s, .tuple ⟨[.int .i64 (iv s), .bool (io s)]⟩) | _ => none)),
  (25, .v (fun | [.string s] => some (SL s, .tuple ⟨[.agg ⟨[.int .i64 (e1 s), .int .i64 (e2 s)]⟩, .bool (eo s)]⟩) | _ => none)),
  (8, .r (fun | [.agg [.v (.int .i64 k), .r 48 (.pair (.int .i64) (.int .i64)) xs]] => some (True, [.one (.v (.bool (vd k xs)))]) | _ => none))]
end Go.Proofs.YtkcelhhhbbpbpaaDoor
