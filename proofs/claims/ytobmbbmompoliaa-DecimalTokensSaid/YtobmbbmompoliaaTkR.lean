/- Tokens: the reference's functions; names; the law: what is known of the callees; heads of loops. -/
import Derived.Test.YtobmbbmompoliaaTkC
namespace Go.Proofs.Ytobmbbmompoliaa
open Go Go.Abs Go.RowKit
set_option linter.unusedVariables false
def EndOk (s : ByteArray) (i : Int) : Prop := 0 ≤ i ∧ i < s.size ∧ s.size ≤ 65536 ∧ bt s i.toNat ≠ 32 ∧ bt s i.toNat ≠ 9 ∧ bt s i.toNat ≠ 35
/-- Where a token ends, and its kind; no kind: it cannot stand there. -/
def endE (s : ByteArray) (i : Int) : Int := if (tokE s i.toNat).1 < 0 then i else ((tokE s i.toNat).2 : Nat)
def endK (s : ByteArray) (i : Int) : Int := if (tokE s i.toNat).1 < 0 then 0 else (tokE s i.toNat).1
def sEnd : FSpec := fun | [.string s, .int .i64 i] => some (EndOk s i, pair (num (endE s i)) (num (endK s i))) | _ => none
def annE (p : Int → Bool) (S : ByteArray) : Ann where
  σ := Nat
  st := fun s n => ⟨lset (keepA s 103 [0, 1]) 6 (.v (.int .i64 (n : Int))), s.hp⟩
  inv := fun s n => RunI p S (intA s 6).toNat n
  μ := fun _ n => S.size - n
def joinE (p : Int → Bool) (S : ByteArray) : Ann where
  σ := Nat
  st := fun s _ => ⟨lset (keepA s 103 [0, 1]) 6 (.v (.int .i64 (runE p S (intA s 6).toNat : Nat))), s.hp⟩
  inv := fun _ _ => True
  μ := fun _ _ => 0
def AEnd (S : ByteArray) : FuncId → List (Nat × LoopBy) := fun _ => [(0, .annJ (annE wordI S) (joinE wordI S)), (2, .annJ (annE digI S) (joinE digI S)), (4, .annJ (annE digI S) (joinE digI S))]
def ΓEnd : List (FuncId × CSpec) := [(52, .v (sByte symI)), (36, .v (sByte ltrI)), (37, .v (sByte digI))]
def annT1 (S : ByteArray) : Ann where
  σ := Nat × Int × Int × List Tok
  st := fun s x => ⟨lset (lset (lset (lset (keepA s 94 [0, 3]) 5 (.os s.hp.length x.2.2.2.length)) 6 (.v (.int .i64 x.2.1))) 7 (.v (.int .i64 ((x.1 : Int) + 1 - x.2.2.1)))) 8 (.v (.int .i64 (x.1 : Int))), s.hp ++ [⟨51, [], some true, some ⟨TokET, x.2.2.2, false⟩⟩, deadB]⟩
  inv := fun _ x => TI S x.1 x.2.1 x.2.2.1 x.2.2.2
  μ := fun _ x => S.size - x.1
def annH (S : ByteArray) : Ann where
  σ := Nat
  st := fun s n => ⟨lset (keepA s 94 [0, 3, 5, 6, 7]) 8 (.v (.int .i64 (n : Int))), s.hp⟩
  inv := fun s n => RunI nlI S (intA s 8).toNat n
  μ := fun _ n => S.size - n
def joinH (S : ByteArray) : Ann where
  σ := Nat
  st := fun s _ => ⟨lset (keepA s 94 [0, 3, 5, 6, 7]) 8 (.v (.int .i64 (runE nlI S (intA s 8).toNat : Nat))), s.hp⟩
  inv := fun _ _ => True
  μ := fun _ _ => 0
def AT1 (S : ByteArray) : FuncId → List (Nat × LoopBy) := fun _ => [(0, .ann (annT1 S)), (2, .annJ (annH S) (joinH S))]
def ΓT1 : List (FuncId × CSpec) := [(33, .v sEnd)]
/-! Names. -/
def annAl (S : ByteArray) : Ann where
  σ := Nat
  st := fun s n => ⟨lset (keepA s 20 [0, 1, 7]) 8 (.v (.int .i64 (n : Int))), s.hp⟩
  inv := fun _ n => RunI wordI S 0 n
  μ := fun _ n => S.size - n
def AAl (S : ByteArray) : FuncId → List (Nat × LoopBy) := fun _ => [(0, .ann (annAl S))]
def ΓNa : List (FuncId × CSpec) := [(35, .v (sByte ltrI)), (34, .v (sByte wordI))]
def annNa (S : ByteArray) : Ann where
  σ := Nat
  st := fun s n => ⟨lset (keepA s 42 [0]) 3 (.v (.int .i64 (n : Int))), s.hp⟩
  inv := fun _ n => RunI wordI S 0 n
  μ := fun _ n => S.size - n
def ANa (S : ByteArray) : FuncId → List (Nat × LoopBy) := fun _ => [(0, .ann (annNa S))]
def ΓNr : List (FuncId × CSpec) := [(36, .v (sByte ltrI)), (37, .v (sByte digI))]
/-! The law. -/
def annEqT (xs : List Tok) : Ann where
  σ := Nat
  st := fun s i => ⟨lset (keepA s 26 [0, 1, 12]) 13 (.v (.int .i64 (i : Int))), s.hp⟩
  inv := fun _ i => i ≤ xs.length
  μ := fun _ i => xs.length - i
def AEqT (xs : List Tok) : FuncId → List (Nat × LoopBy) := fun _ => [(0, .ann (annEqT xs))]
def EqT (xs ys : List Tok) : Prop := xs = ys ∧ xs.length ≤ 9223372036854775807
def ShortT (s : ByteArray) : Prop := s.size ≤ 9223372036854775807
/-- Tokens, by names. -/
def sTkC (tl : ByteArray → List Tok) (tn tc te : ByteArray → Int) : RSpec := fun | [.one (.v (.string s))] => some (True, [.one (.r 51 TokET (tl s)), .agg [.v (num (tn s)), .v (num (tc s))], .one (.v (num (te s)))]) | _ => none
def sNm (nb : ByteArray → Bool) : FSpec := fun | [.string s] => some (True, .bool (nb s)) | _ => none
def ΓLt1 (tl : ByteArray → List Tok) (tn tc te : ByteArray → Int) (nb : ByteArray → Bool) : List (FuncId × CSpec) := [(7, .v (fun | [] => some (True, .bool true) | _ => none)), (16, .r (sTkC tl tn tc te)), (17, .r (sTkC tl tn tc te)),
  (18, .r (fun | [.one (.r 51 (.pair (.int .i64) (.pair .str (.pair (.int .i64) (.int .i64)))) xs), .one (.r 51 (.pair (.int .i64) (.pair .str (.pair (.int .i64) (.int .i64)))) ys)] => some (EqT xs ys, [.one (.v (.bool true))]) | _ => none)),
  (19, .v (sNm nb)), (20, .v (sNm nb))]
end Go.Proofs.Ytobmbbmompoliaa
