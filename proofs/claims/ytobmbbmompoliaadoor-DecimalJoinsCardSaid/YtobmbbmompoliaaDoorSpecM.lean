/- Numbers with decimal digits: what is answered, and what is said of the loops. -/
import Derived.Test.YtobmbbmompoliaaDoorSpecN
namespace Go.Proofs.YtobmbbmompoliaaDoor
open Go Go.Abs Go.RowKit
set_option linter.unusedVariables false
def Fits (n : Int) : Prop := -1152921504606846976 ≤ n ∧ n ≤ 1152921504606846976
instance (n : Int) : Decidable (Fits n) := by unfold Fits; infer_instance
def Unit (u : Int) : Prop := 1 ≤ u ∧ u ≤ 1099511627776
instance (n : Int) : Decidable (Unit n) := by unfold Unit; infer_instance
def Dg9 (k : Int) : Prop := 0 ≤ k ∧ k ≤ 9
instance (n : Int) : Decidable (Dg9 n) := by unfold Dg9; infer_instance
def sFits : FSpec := fun | [.int .i64 n] => some (True, .bool (decide (Fits n))) | _ => none
def sBig : FSpec := fun | [.int .i64 n] => some (True, .bool (decide (¬ Fits n))) | _ => none
def mulI (n u : Int) : Int := if 2 * (n % u) ≥ u then n / u + 1 else n / u
def MulOk (n u : Int) : Prop := Fits n ∧ Unit u
def sMultiple : FSpec := fun | [.int .i64 n, .int .i64 u] => some (MulOk n u, num (mulI n u)) | _ => none
def okR (lo hi u : Int) : Prop := Unit u ∧ (Fits lo ∧ Fits hi) ∧ lo ≤ hi
instance (lo hi u : Int) : Decidable (okR lo hi u) := by unfold okR; infer_instance
def erR (lo hi u : Int) : Int := pick (Unit u) (pick (Fits lo ∧ Fits hi) (pick (lo ≤ hi) 0 1) 5) 2
def sRounded : FSpec := fun | [.int .i64 lo, .int .i64 hi, .int .i64 u] => some (True, .tuple ⟨[num (gate (okR lo hi u) (mulI lo u)), num (gate (okR lo hi u) (mulI hi u)), num (erR lo hi u)]⟩) | _ => none
def ok1 (lo hi u : Int) : Prop := okR lo hi u ∧ mulI lo u = mulI hi u
instance (lo hi u : Int) : Decidable (ok1 lo hi u) := by unfold ok1; infer_instance
def er1 (lo hi u : Int) : Int := pick (okR lo hi u) (pick (mulI lo u = mulI hi u) 0 24) (erR lo hi u)
def sRound : FSpec := fun | [.int .i64 lo, .int .i64 hi, .int .i64 u] => some (True, pair (num (gate (ok1 lo hi u) (mulI lo u))) (num (er1 lo hi u))) | _ => none
/-- The text of a number. -/
def fL (n : Int) (k : Nat) : List UInt8 := (if n < 0 then [45] else []) ++ (digL (n.natAbs / 10 ^ k) 1 ++ (if k = 0 then [] else [46]) ++ digL (n.natAbs % 10 ^ k) k)
def fB (n k : Int) : ByteArray := ⟨(fL n k.toNat).toArray⟩
def FOk (n k : Int) : Prop := Fits n ∧ Dg9 k
instance (n k : Int) : Decidable (FOk n k) := by unfold FOk; infer_instance
def sFormatI : FSpec := fun | [.int .i64 n, .int .i64 k] => some (FOk n k, .string (fB n k)) | _ => none
def gateS (c : Prop) [Decidable c] (s : ByteArray) : ByteArray := if c then s else ⟨#[]⟩
def erF (n k : Int) : Int := pick (Dg9 k) (pick (Fits n) 0 5) 2
def sFormat : FSpec := fun | [.int .i64 n, .int .i64 k] => some (True, pair (.string (gateS (FOk n k) (fB n k))) (num (erF n k))) | _ => none
def digB (n k : Int) : ByteArray := ⟨(digL n.toNat k.toNat).toArray⟩
def DgOk (n k : Int) : Prop := 0 ≤ n ∧ n ≤ 1152921504606846976 ∧ Dg9 k
def sDigits : FSpec := fun | [.int .i64 n, .int .i64 k] => some (DgOk n k, .string (digB n k)) | _ => none
def p10 (k : Nat) : Int := 10 ^ k
def sPower : FSpec := fun | [.int .i64 k] => some (Dg9 k, num (p10 k.toNat)) | _ => none
/-- The text of an interval. -/
def prB (lo hi u k : Int) : ByteArray := if mulI lo u = mulI hi u then fB (mulI lo u) k else fB (mulI lo u) k ++ ⟨#[32, 46, 46, 32]⟩ ++ fB (mulI hi u) k
def okP (lo hi u k : Int) : Prop := okR lo hi u ∧ Dg9 k
instance (lo hi u k : Int) : Decidable (okP lo hi u k) := by unfold okP; infer_instance
def erP (lo hi u k : Int) : Int := pick (okR lo hi u) (pick (Dg9 k) 0 2) (erR lo hi u)
def sPrint : FSpec := fun | [.int .i64 lo, .int .i64 hi, .int .i64 u, .int .i64 k] => some (True, pair (.string (gateS (okP lo hi u k) (prB lo hi u k))) (num (erP lo hi u k))) | _ => none
def sYes : FSpec := fun | [] => some (True, .bool true) | _ => none
/-! Loops. -/
abbrev rowU (l : List Int) : List Blk := [⟨5, [], some true, some ⟨.int .u8, l, false⟩⟩, deadB]
/-- Bytes that are written from the right. -/
def bytR (l : List UInt8) : List Int := l.reverse.map fun b => (b.toNat : Int)
/-- What is still to be written in front. -/
def remR (m i k : Nat) : List UInt8 := if i ≤ k then digL (m / 10 ^ (k - i)) 1 ++ (if k = 0 then [] else [46]) ++ digL (m % 10 ^ (k - i)) (k - i) else digL m 0
def annFmt (N : Nat) (K : Nat) : Ann where
  σ := Nat × Nat × List UInt8
  st := fun s x => ⟨lset (lset (lset (keepA s 49 [0, 1]) 5 (.os s.hp.length (bytR x.2.2).length)) 6 (.v (.int .i64 x.1))) 7 (.v (.int .i64 x.2.1)), s.hp ++ rowU (bytR x.2.2)⟩
  inv := fun _ x => x.1 ≤ N ∧ x.2.1 ≤ x.2.2.length ∧ (0 < x.2.1 → x.2.2 ≠ []) ∧ remR x.1 x.2.1 K ++ x.2.2 = remR N 0 K
  μ := fun _ x => x.1 + (K + 1 - x.2.1)
/-- The list in slot 0's row. -/
def restAL (st : AS) : List Int := match st.hp[(match lget st.tm 0 with | .os k _ => k | .rs k _ => k | _ => 0)]? with | some b => (match b.row with | some ⟨.int _, l, _⟩ => l | _ => []) | none => []
/-- Turned round so far. -/
def revA (l : List Int) (i : Nat) : List Int := (List.range l.length).map fun t => if t < i ∨ l.length - i ≤ t then l.getD (l.length - 1 - t) 0 else l.getD t 0
def rowMod (hp : List Blk) (k : Nat) (i : Nat) : List Blk := match hp[k]? with | some b => (match b.row with | some ⟨.int q, l, h⟩ => bset hp k { b with row := some ⟨.int q, revA l i, h⟩ } | _ => hp) | none => hp
def annRev : Ann where
  σ := Nat
  st := fun s i => ⟨lset (lset (keepA s 28 [0]) 2 (.v (.int .i64 i))) 3 (.v (.int .i64 ((restAL s).length - 1 - i))), rowMod s.hp (match lget s.tm 0 with | .os k _ => k | .rs k _ => k | _ => 0) i⟩
  inv := fun s i => 2 * i ≤ (restAL s).length + 1
  μ := fun s i => (restAL s).length + 1 - i
def annDig (N K : Int) : Ann where
  σ := Nat × List UInt8
  st := fun s x => ⟨lset (lset (lset (keepA s 25 []) 0 (.v (.int .i64 x.1))) 1 (.v (.int .i64 (K - x.2.length)))) 5 (.v (.string ⟨x.2.toArray⟩)), s.hp⟩
  inv := fun _ x => (x.1 : Int) ≤ N ∧ digL x.1 (K - x.2.length).toNat ++ x.2 = digL N.toNat K.toNat
  μ := fun _ x => x.1 + (K - x.2.length).toNat
def ADig (N K : Int) : FuncId → List (Nat × LoopBy) := fun _ => [(0, .ann (annDig N K))]
def annPow (K : Int) : Ann where
  σ := Nat
  st := fun s i => ⟨lset (lset (keepA s 13 [0]) 3 (.v (.int .i64 (p10 i)))) 4 (.v (.int .i64 i)), s.hp⟩
  inv := fun _ i => (i : Int) ≤ K
  μ := fun _ i => K.toNat - i
def APow (K : Int) : FuncId → List (Nat × LoopBy) := fun _ => [(0, .ann (annPow K))]
def ANear : FuncId → List (Nat × LoopBy) := fun _ => [(0, .times 4)]
def ΓB : List (FuncId × CSpec) := [(19, .v sBig), (42, .v sMultiple)]
def ΓRd : List (FuncId × CSpec) := [(26, .v sRounded), (20, .v sFormatI), (19, .v sBig)]
def ΓRr : List (FuncId × CSpec) := []
def ΓRf : List (FuncId × CSpec) := []
def ΓRp : List (FuncId × CSpec) := []
def ΓLn : List (FuncId × CSpec) := [(4, .v sYes), (11, .v sFormat), (13, .v sRound), (14, .v sPrint)]
end Go.Proofs.YtobmbbmompoliaaDoor
