/- Distances by vertical angles: what the program and the reference answer. -/
import Derived.Test.YtofnffcdbbiohaaDoorMrgF
import Derived.Test.YtofnffcdbbiohaaDoorDpCtG
namespace Go.Proofs.YtofnffcdbbiohaaDoor
open Go Go.Abs Go.RowKit
set_option linter.unusedVariables false
/-- The angle is one of a vertical angle. -/
def InR (h a b : Int) : Prop := 1 ≤ h ∧ h ≤ 1000000 ∧ 1 ≤ a ∧ b ≤ 5400000
instance (h a b : Int) : Decidable (InR h a b) := by unfold InR; infer_instance
def sTrSin : FSpec := fun | [.agg ⟨[.int .i64 a, .int .i64 b]⟩] => some (ArcV a b, pair (wid (encL a b) (encH a b)) (num 0)) | _ => none
def sTrCos : FSpec := fun | [.agg ⟨[.int .i64 a, .int .i64 b]⟩] => some (ArcV a b, pair (wid (cL a b) (cH a b)) (num 0)) | _ => none
def sR6Sin : FSpec := fun | [.agg ⟨[.int .i64 a, .int .i64 b]⟩] => some (ArcV a b, wid (encL a b) (encH a b)) | _ => none
def sR6Cos : FSpec := fun | [.agg ⟨[.int .i64 a, .int .i64 b]⟩] => some (ArcV a b, wid (cL a b) (cH a b)) | _ => none
def QuoP (a b c d n : Int) : Prop := FixV a b ∧ FixV c d ∧ 0 < c ∧ Q40 n
def sQuo : FSpec := fun | [.agg ⟨[.int .i64 a, .int .i64 b]⟩, .agg ⟨[.int .i64 c, .int .i64 d]⟩, .int .i64 n] => some (QuoP a b c d n, quoAns a b c d n) | _ => none
def sVal5 : FSpec := fun | [.agg ⟨[.int .i64 a, .int .i64 b]⟩] => some (True, .bool (decide (ArcV a b))) | _ => none
def sFl5 : FSpec := fun | [.int .i64 n, .int .i64 d] => some (Q41 n ∧ d = 1852, num (n / 1852)) | _ => none
def sCe5 : FSpec := fun | [.int .i64 n, .int .i64 d] => some (Q41 n ∧ d = 1852, num (-(-n / 1852))) | _ => none
def ΓBy : List (FuncId × CSpec) := [(14, .v sVal5), (8, .v sTrCos), (7, .v sTrSin), (16, .v sQuo), (17, .v sFl5)]
def ΓBr : List (FuncId × CSpec) := []
def okBy (h a b : Int) : Prop := okF (cL a b) (cH a b) (encL a b) (encH a b) (10 * h)
instance (h a b : Int) : Decidable (okBy h a b) := by unfold okBy; infer_instance
def byL (h a b : Int) : Int := gate (ArcV a b ∧ InR h a b ∧ okBy h a b) (qL (cL a b) (cH a b) (encL a b) (encH a b) (10 * h) / 1852)
def byH (h a b : Int) : Int := gate (ArcV a b ∧ InR h a b ∧ okBy h a b) (-(-qH (cL a b) (cH a b) (encL a b) (encH a b) (10 * h) / 1852))
def byE (h a b : Int) : Int := pick (ArcV a b) (pick (InR h a b) (pick (okBy h a b) 0 5) 2) 1
def sBy : FSpec := fun | [.int .i64 h, .agg ⟨[.int .i64 a, .int .i64 b]⟩] => some (True, pair (wid (byL h a b) (byH h a b)) (num (byE h a b))) | _ => none
def sYes5 : FSpec := fun | [] => some (True, .bool true) | _ => none
def ΓLa : List (FuncId × CSpec) := [(4, .v sYes5), (5, .v sBy)]
end Go.Proofs.YtofnffcdbbiohaaDoor
