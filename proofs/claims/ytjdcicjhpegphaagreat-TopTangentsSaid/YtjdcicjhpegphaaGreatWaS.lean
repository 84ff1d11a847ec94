/- The examples that TopTangents looks at: what is called. -/
import Derived.Test.YtjdcicjhpegphaaGreatMrgH
import Derived.Test.YtjdcicjhpegphaaGreatMrgD
namespace Go.Proofs.YtjdcicjhpegphaaGreat
open Go Go.Abs Go.RowKit Go.Sine
set_option linter.unusedVariables false
instance (a b : Int) : Decidable (FixO a b) := by unfold FixO; infer_instance
def PbA (k' k : Nat) (a b : Int) : Prop := k' = k ∧ ArcV a b
def PbO (k' k : Nat) (a b c d : Int) : Prop := k' = k ∧ FixO a b ∧ FixO c d
def vSn (k : Nat) (sl sh : Int → Int → Int) : FSpec := fun | [.pointer (some ⟨k', 0, none⟩), .agg ⟨[.int .i64 a, .int .i64 b]⟩] => some (PbA k' k a b, wid (sl a b) (sh a b)) | _ => none
def vMu (k : Nat) (ml mh : Int → Int → Int → Int → Int) : FSpec := fun | [.pointer (some ⟨k', 0, none⟩), .agg ⟨[.int .i64 a, .int .i64 b]⟩, .agg ⟨[.int .i64 c, .int .i64 d]⟩] => some (PbO k' k a b c d, wid (ml a b c d) (mh a b c d)) | _ => none
def vAd (k : Nat) : FSpec := fun | [.pointer (some ⟨k', 0, none⟩), .agg ⟨[.int .i64 a, .int .i64 b]⟩, .agg ⟨[.int .i64 c, .int .i64 d]⟩] => some (PbO k' k a b c d, wid (a + c) (b + d)) | _ => none
def vSb (k : Nat) : FSpec := fun | [.pointer (some ⟨k', 0, none⟩), .agg ⟨[.int .i64 a, .int .i64 b]⟩, .agg ⟨[.int .i64 c, .int .i64 d]⟩] => some (PbO k' k a b c d, wid (a - d) (b - c)) | _ => none
/-- Haversines of no angle and of 60 degrees. -/
def HvOk (a b : Int) : Prop := a = b ∧ (a = 0 ∨ a = 3600000)
def hvI (a : Int) : Int := if a = 0 then 0 else 268435456
def sHav : FSpec := fun | [.agg ⟨[.int .i64 a, .int .i64 b]⟩] => some (HvOk a b, fxOk (hvI a) (hvI a)) | _ => none
def AhOk (a b : Int) : Prop := a = 268435456 ∧ b = 268435456
def sAhv : FSpec := fun | [.agg ⟨[.int .i64 a, .int .i64 b]⟩] => some (AhOk a b, fxOk 3600000 3600000) | _ => none
def sOne1 : FSpec := fun | [.int .i64 n] => some (True, wid n n) | _ => none
def sSgn : FSpec := fun | [.int .i64 n] => some (True, num (sgI n)) | _ => none
def ΓGc (k : Nat) (sl sh kl kh : Int → Int → Int) (ml mh zl zh : Int → Int → Int → Int → Int) : List (FuncId × CSpec) := [(73, .v (vSn k sl sh)), (74, .v (vSn k kl kh)), (72, .v (vMu k ml mh)), (80, .v (vAd k)), (75, .v (vSb k)), (78, .v (sKeep k)), (76, .v (sKeep k)), (71, .v sOne1), (63, .v sSgn), (77, .v (sBrg zl zh)), (79, .v sHav), (51, .v sAhv)]
def ΓHv : List (FuncId × CSpec) := [(124, .v sArcV), (125, .v sEnc), (126, .v sFurther)]
def ΓAh : List (FuncId × CSpec) := [(91, .v sFxValid), (92, .v sAtPart), (110, .v (sAsn asL asH))]
def P60 (k : Nat) (l : List Int) : Prop := l = [0, 0, 0, 3600000]
def PbZ (z : Int) : Prop := z = 0
def pCrs (X Y : Int) : PSpec := fun | [.agg ⟨[.int .i64 a, .int .i64 b]⟩, .agg ⟨[.int .i64 c, .int .i64 d]⟩], [.int .i64 z] => some (P60 0 [a, b, c, d] ∧ PbZ z, wid X Y) | _, _ => none
end Go.Proofs.YtjdcicjhpegphaaGreat
