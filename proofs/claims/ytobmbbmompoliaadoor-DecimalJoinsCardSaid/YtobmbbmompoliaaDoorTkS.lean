/- Tokens: what is known of the callees; heads of loops. -/
import Derived.Test.YtobmbbmompoliaaDoorCtM
import Derived.Test.YtobmbbmompoliaaDoorTokP
namespace Go.Proofs.YtobmbbmompoliaaDoor
open Go Go.Abs Go.RowKit
set_option linter.unusedVariables false
abbrev TokET : ET := .pair (.int .i64) (.pair .str (.pair (.int .i64) (.int .i64)))
abbrev tR (l : List Tok) : CD := .r 30 TokET l
def sByte (p : Int → Bool) : FSpec := fun | [.int .u8 c] => some (True, .bool (p c)) | _ => none
def symS : ByteArray := ⟨#[45, 43, 58, 44, 59, 47, 61, 40, 41, 60, 62, 42, 64, 63]⟩
def symIx (c : Int) : Int := Lib.indexByte symS.data.toList c.toNat.toUInt8
def IsSym (s : ByteArray) : Prop := s = symS
def sSym : FSpec := fun | [.string s, .int .u8 c] => some (IsSym s, num (symIx c)) | _ => none
/-- So far all bytes have a property. -/
structure RunI (p : Int → Bool) (s : ByteArray) (a n : Nat) : Prop where
  le : a ≤ n
  sz : n ≤ s.size
  all : ∀ k, a ≤ k → k < n → p (bt s k) = true
def runBy (f : AV) (S : ByteArray) (a n : Nat) : Prop :=
  match f with
  | .v (.func (.func g) _ _) => bif Nat.beq g 24 then RunI digI S a n else bif Nat.beq g 30 then RunI wordI S a n else RunI nlI S a n
  | _ => False
def annRun (S : ByteArray) : Ann where
  σ := Nat
  st := fun s n => ⟨lset (keepA s 31 [0, 1, 2]) 7 (.v (.int .i64 (n : Int))), s.hp⟩
  inv := fun s n => runBy (lget s.tm 2) S (intA s 1).toNat n
  μ := fun _ n => S.size - n
/-- Behind a run: where it ends. -/
def rj (p : Int → Bool) (S : ByteArray) (s : AS) : AS := ⟨lset (keepA s 31 [0, 1, 2]) 7 (.v (.int .i64 (runE p S (intA s 1).toNat : Nat))), s.hp⟩
def joinRun (S : ByteArray) : Ann where
  σ := Nat
  st := fun s _ => match lget s.tm 2 with | .v (.func (.func g) _ _) => bif Nat.beq g 24 then rj digI S s else bif Nat.beq g 30 then rj wordI S s else rj nlI S s | _ => s
  inv := fun _ _ => True
  μ := fun _ _ => 0
def annTk (S : ByteArray) : Ann where
  σ := Nat × Int × Int × List Tok
  st := fun s x => ⟨lset (keepA s 102 [0, 3, 5]) 6 (.os s.hp.length x.2.2.2.length), setCs s 1 [.v (.string S), .v (.int .i64 (x.1 : Int)), .v (.int .i64 x.2.1), .v (.int .i64 x.2.2.1)] ++ [⟨30, [], some true, some ⟨TokET, x.2.2.2, false⟩⟩, deadB]⟩
  inv := fun _ x => TI S x.1 x.2.1 x.2.2.1 x.2.2.2
  μ := fun _ x => S.size - x.1
def ATk (S : ByteArray) : FuncId → List (Nat × LoopBy) := fun g => bif Nat.beq g 27 then [(0, .annJ (annRun S) (joinRun S))] else [(0, .ann (annTk S))]
def ΓTk : List (FuncId × CSpec) := [(29, .v (sByte ltrI)), (24, .v (sByte digI)), (30, .v (sByte wordI)), (28, .v (sByte nlI)), (32, .v sSym)]
def ΓWd : List (FuncId × CSpec) := [(29, .v (sByte ltrI)), (24, .v (sByte digI))]
end Go.Proofs.YtobmbbmompoliaaDoor
