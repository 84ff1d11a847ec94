/- Tokens are read again: what is known of the callees; heads of loops. -/
import Derived.Test.YtobmbbmompoliaaDoorJnP
import Derived.Test.YtobmbbmompoliaaDoorTkC
import Derived.Test.YtobmbbmompoliaaDoorSpl
import Derived.Test.YtobmbbmompoliaaDoorBuilder
namespace Go.Proofs.YtobmbbmompoliaaDoor
open Go Go.Abs Go.RowKit
set_option linter.unusedVariables false
def isSelf (k : Nat) : AV → Bool
  | .v (.pointer none) => true
  | .p j 0 => Nat.beq j k
  | _ => false
/-- What copyCheck does to a builder of the call's own. -/
def ckS (T : TypeId) : ISpec := fun args hp K =>
  match args with
  | [.p k 0] =>
    (match hp[k]? with
    | some b => (match b.row, b.cs with
      | none, [c0, d] => bif isMine b && (Nat.beq b.T T && isSelf k c0) then K (.v (.tuple #[])) (bset hp k ⟨b.T, [.p k 0, d], b.own, none⟩) else False
      | _, _ => False)
    | none => False)
  | _ => False
/-- Numbers that are bytes, not none. -/
structure ByOk (xs : List Int) : Prop where
  ne : xs ≠ []
  ex : ∃ l : List UInt8, xs = l.map fun b => (b.toNat : Int)
def boI (xs : List Int) : ByteArray := ⟨(xs.map fun x => x.toNat.toUInt8).toArray⟩
/-- What String does to a builder of the call's own: the row of bytes is the string's from now on. -/
def asI : (te : ET) → List te.ty → List Int
  | .int _, xs => xs
  | _, _ => []
def stS (T e : TypeId) (bo : List Int → ByteArray) : ISpec := fun args hp K =>
  match args with
  | [.p k 0] =>
    (match hp[k]? with
    | some b => (match b.row, b.cs with
      | none, [_, d] => bif isMine b && Nat.beq b.T T then destX hp e 1 undef d fun te xs _ hp' => (match decEq te (.int .u8) with | .isTrue _ => ByOk (asI te xs) ∧ K (.v (.string (bo (asI te xs)))) hp' | .isFalse _ => False) else False
      | _, _ => False)
    | none => False)
  | _ => False
structure SplOk (s p : ByteArray) : Prop where
  s : s.size < 4294967281
  p : 1 ≤ p.size
def sTkJ (tl : ByteArray → List Tok) (tn tc te : ByteArray → Int) : RSpec := fun | [.one (.v (.string s))] => some (True, [.one (.r 30 TokET (tl s)), .agg [.v (num (tn s)), .v (num (tc s))], .one (.v (num (te s)))]) | _ => none
def ΓJn (tl : ByteArray → List Tok) (tn tc te : ByteArray → Int) (sp : ByteArray → ByteArray → List ByteArray) (pf : ByteArray → ByteArray → Bool) (bo : List Int → ByteArray) : List (FuncId × CSpec) :=
  [(4, .v (fun | [] => some (True, .bool true) | _ => none)), (5, .r (sTkJ tl tn tc te)),
   (6, .r (fun | [.one (.v (.string s)), .one (.v (.string p))] => some (SplOk s p, [.one (.r 9 .str (sp s p))]) | _ => none)),
   (7, .v (fun | [.string a, .string b] => some (True, .bool (pf a b)) | _ => none)),
   (18, .i (ckS 36)), (10, .i (stS 36 5 bo))]
/-- The tokens so far are written. -/
structure JnI (L : List Tok) (i : Nat) (xs : List Int) : Prop where
  i1 : 1 ≤ i
  il : i ≤ L.length
  xs : xs = (jnL (L.take i)).map fun b => (b.toNat : Int)
structure JmI (n j : Nat) : Prop where
  le : j ≤ n
def slotP (s : AS) (i : Nat) : Nat := match lget s.tm i with | .p k _ => k | _ => 0
/-- The builder's row is another one. -/
def rowTo (s : AS) (k : Nat) (xs : List Int) : List Blk :=
  (match cellA s k 1 with | .rs r _ => bset (setCs s k [.p k 0, .rs s.hp.length xs.length]) r deadB | _ => setCs s k [.p k 0, .rs s.hp.length xs.length]) ++ [⟨5, [], some true, some ⟨.int .u8, xs, true⟩⟩, deadB]
def annJn (L : List Tok) : Ann where
  σ := Nat × List Int
  st := fun s x => ⟨lset (keepA s 158 [0, 3, 6, 7, 45, 46]) 47 (.v (.int .i64 (x.1 : Int))), rowTo s (slotP s 7) x.2⟩
  inv := fun _ x => JnI L x.1 x.2
  μ := fun _ x => L.length - x.1
/-- Behind a round. -/
def joinRd (L : List Tok) : Ann where
  σ := List Int
  st := fun s x => ⟨keepA s 158 [0, 3, 6, 7, 45, 46, 47], rowTo s (slotP s 7) x⟩
  inv := fun s x => JnI L ((intA s 47).toNat + 1) x
  μ := fun _ _ => 0
/-- Behind the rounds. -/
def joinJn (L : List Tok) : Ann where
  σ := List Int
  st := fun s x => ⟨keepA s 158 [0, 3, 7], rowTo s (slotP s 7) x⟩
  inv := fun _ x => JnI L L.length x
  μ := fun _ _ => 0
def annJm (n : Nat) : Ann where
  σ := Nat
  st := fun s j => ⟨lset (keepA s 158 [3, 10, 128, 129]) 130 (.v (.int .i64 (j : Int))), s.hp⟩
  inv := fun _ j => JmI n j
  μ := fun _ j => n - j
def AJn (L : List Tok) : FuncId → List (Nat × LoopBy) := fun g => bif Nat.beq g 3 then [(0, .afterJ 1 (annJn L) (joinJn L)), (1, .join (joinRd L)), (2, .ann (annJm L.length))] else []
end Go.Proofs.YtobmbbmompoliaaDoor
