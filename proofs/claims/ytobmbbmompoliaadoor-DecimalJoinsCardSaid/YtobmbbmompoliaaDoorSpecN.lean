/- What the functions of decimal, and of its reference, answer. -/
import Derived.Test.YtobmbbmompoliaaDoorProg
import Derived.Test.YtobmbbmompoliaaDoorAbs
import Derived.Test.YtobmbbmompoliaaDoorBase
import Derived.Test.YtobmbbmompoliaaDoorStrs
import Derived.Lib.IndexMore
import Derived.Lib.Bytealg
namespace Go.Proofs.YtobmbbmompoliaaDoor
open Go Go.Abs Go.RowKit
set_option linter.unusedVariables false
instance (n : Int) : Decidable (I64 n) := by unfold I64; infer_instance
abbrev pair (a b : Value) : Value := .tuple ⟨[a, b]⟩
abbrev num (n : Int) : Value := .int .i64 n
abbrev oneV (x : Value) : AD := .one (.v x)
def pick (c : Prop) [Decidable c] (x y : Int) : Int := if c then x else y
def gate (c : Prop) [Decidable c] (x : Int) : Int := if c then x else 0
/-! The library's. -/
def sCutPrefix : FSpec := fun | [.string s, .string p] => some (True, .tuple ⟨[.string ⟨(Lib.trimPrefix s.data.toList p.data.toList).toArray⟩, .bool (Lib.hasPrefix s.data.toList p.data.toList)]⟩) | _ => none
def ShortS (s : ByteArray) : Prop := s.size < 4294967281
def sCut : FSpec := fun | [.string s, .string p] => some (ShortS s, .tuple ⟨[.string ⟨(Lib.cut s.data.toList p.data.toList).1.toArray⟩, .string ⟨(Lib.cut s.data.toList p.data.toList).2.1.toArray⟩, .bool (Lib.cut s.data.toList p.data.toList).2.2]⟩) | _ => none
def RepOk (s : ByteArray) (c : Int) : Prop := 0 ≤ c ∧ c ≤ 1000 ∧ s.size ≤ 1000
def sRepeat : FSpec := fun | [.string s, .int .i64 c] => some (RepOk s c, .string ⟨(Lib.repeatL s.data.toList c.toNat).toArray⟩) | _ => none
def sIndexByte : FSpec := fun | [.string s, .int .u8 c] => some (True, num (Lib.indexByte s.data.toList c.toNat.toUInt8)) | _ => none
def ΓS : List (FuncId × CSpec) := [(21, .v sCutPrefix), (22, .v sCut), (25, .v sRepeat), (32, .v sIndexByte)]
/-- Every loop is walked, up to so many rounds. -/
def AAll : FuncId → List (Nat × LoopBy) := fun _ => [(0, .times 40), (1, .times 40), (2, .times 40), (3, .times 40), (4, .times 40)]
end Go.Proofs.YtobmbbmompoliaaDoor
