/- The program's reading of a text of an instrument: its code's parts, and the states between two rounds. -/
import Derived.Test.YtkcelhhhbbpbpaaDoorInGS
import Derived.Test.YtkcelhhhbbpbpaaDoorAbsRf
namespace Go.Proofs.YtkcelhhhbbpbpaaDoor
open Go Go.Abs Go.RowKit
set_option linter.unusedVariables false
def codeOf (f : Func) : Code := match f.body with | some c => c | none => .skip
def seqA : Code → Code | .seq a _ => a | c => c
def seqB : Code → Code | .seq _ b => b | c => c
def blkC : Code → Code | .block _ c => c | c => c
def rfAs : Code → Code | .rangeFunc _ _ a _ => a | c => c
def idC : Code → Nat | .region n _ _ => n | _ => 0
def opC : Code → Oper | .region _ o _ => (match o.toList with | x :: _ => x | [] => ⟨none, .assign (.tmp 0), 0, "", #[], none⟩) | _ => ⟨none, .assign (.tmp 0), 0, "", #[], none⟩
def rfBo : Code → Code | .rangeFunc _ _ _ b => b | c => c
noncomputable def hC : Code := codeOf Tryd.f10
noncomputable def hR0 : Code := seqA hC
noncomputable def hR1 : Code := seqA (seqB hC)
noncomputable def hR2 : Code := seqA (seqB (seqB hC))
noncomputable def hR3 : Code := seqA (seqA (seqB (seqB (seqB hC))))
noncomputable def hRf : Code := blkC (seqB (seqA (seqB (seqB (seqB hC)))))
noncomputable def hBo : Code := rfBo hRf
noncomputable def hC2 : Code := seqB (seqB (seqB (seqB hC)))
noncomputable def nTm : Nat := Tryd.f10.ntmps
def anys : Nat → List AV
  | 0 => []
  | n + 1 => .any :: anys n
def ptA : Nat → List AV → List AV
  | 0, l => l
  | n + 1, l => ptA n (lset l (n + 2) (.p n 0))
noncomputable def tmN : List AV := anys nTm
noncomputable def tmA : List AV := lset (ptA 5 tmN) 14 (.c 33 [(5, 0)])
noncomputable def tmB (x : ByteArray) : List AV := lset (lset tmA 15 (.v (.string x))) 7 (.v (.string x))
abbrev own1 (T : TypeId) (l : List AV) : Blk := ⟨T, l, some true, none⟩
structure HSt where
  k : Int
  xs : List (Int × Int)
  ln : Nat
def hpI (s : HSt) (u : ByteArray) : List Blk := [own1 24 [.v (num 0), .v (.slice none 0 0)], own1 32 [.v (num 0), .v (num 0)], own1 27 [.v (num 0)], own1 24 [.v (num s.k), .os 6 s.xs.length], own1 32 [.v (num (s.ln : Int)), .v (num 1)], own1 9 [.v (.string u)]] ++ rowE s.xs
def hpX (ln : Nat) (u : ByteArray) : List Blk := [own1 24 [.v (num 0), .v (.slice none 0 0)], own1 32 [.v (num (ln : Int)), .v (num 1)], own1 27 [.v (num 7)], deadB, deadB, own1 9 [.v (.string u)]]
def LnOk (s q : ByteArray) (n : Int) : Prop := SL s ∧ (q = ⟨#[105, 110, 100, 101, 120]⟩ ∧ n = 1 ∨ q = ⟨#[101, 114, 114, 111, 114]⟩ ∧ n = 2)
def ΓHs (lr : ByteArray → Int → List Int) (lo : ByteArray → Int → Bool) : List (FuncId × CSpec) := [
  (21, .r (fun | [.one (.v (.string s)), .one (.v (.string q)), .one (.v (.int .i64 n))] => some (LnOk s q n, [.one (.r 3 (.int .i64) (lr s n)), .one (.v (.bool (lo s n)))]) | _ => none))]
def ΓHe (vd : Int → List (Int × Int) → Bool) : List (FuncId × CSpec) := [
  (13, .r (fun | [.agg [.v (.int .i64 k), .r 48 (.pair (.int .i64) (.int .i64)) xs]] => some (True, [.one (.v (.bool (vd k xs)))]) | _ => none))]
def posV (l c : Int) : Value := .agg ⟨[.int .i64 l, .int .i64 c]⟩
end Go.Proofs.YtkcelhhhbbpbpaaDoor
