/- What the program's, and the reference's, texts of points call. -/
import Derived.Test.YtbpeakgiajcfeaaDoorTxL
import Derived.Test.YtbpeakgiajcfeaaDoorPlP
namespace Go.Proofs.YtbpeakgiajcfeaaDoor
open Go Go.Abs Go.RowKit
set_option linter.unusedVariables false
def sufB (s q : ByteArray) : Bool := Lib.hasSuffix s.data.toList q.data.toList
def tsB (s q : ByteArray) : ByteArray := ⟨(Lib.trimSuffix s.data.toList q.data.toList).toArray⟩
def sideB (n : Int) (p m : ByteArray) : ByteArray := ⟨(coreL n.natAbs ++ (if n < 0 then m.data.toList else p.data.toList)).toArray⟩
def SdOk (n : Int) (p m : ByteArray) : Prop := -21600000 ≤ n ∧ n ≤ 21600000 ∧ p.size ≤ 10 ∧ m.size ≤ 10
def ΓSd (ot : Int → ByteArray) (e : Int → Int) : List (FuncId × CSpec) := [(30, .v (fun | [.int .i64 n] => some (True, pair (.string (ot n)) (num (e n))) | _ => none))]
def ΓSr (ot : Int → ByteArray) : List (FuncId × CSpec) := [(35, .v (fun | [.int .i64 n] => some (Fit n, .string (ot n)) | _ => none))]
def ΓPt (sd : Int → ByteArray → ByteArray → ByteArray) : List (FuncId × CSpec) := [(18, .v (fun | [.int .i64 n, .string p, .string m] => some (SdOk n p m, .string (sd n p m)) | _ => none))]
def ΓPr (sd : Int → ByteArray → ByteArray → ByteArray) : List (FuncId × CSpec) := [(21, .v (fun | [.int .i64 n, .string p, .string m] => some (SdOk n p m, .string (sd n p m)) | _ => none))]
def SQ (s q : ByteArray) : Prop := SL s ∧ q.size ≤ 4000
def SQ3 (s p m : ByteArray) : Prop := SL s ∧ p.size ≤ 4000 ∧ m.size ≤ 4000
/-- What the reading of a number calls. -/
def ΓNu (cs : ByteArray → ByteArray → ByteArray) (co : ByteArray → ByteArray → Bool) (hp : ByteArray → ByteArray → Bool) (pv pe : ByteArray → Int) : List (FuncId × CSpec) := [
  (32, .v (fun | [.string s, .string q] => some (SQ s q, .tuple ⟨[.string (cs s q), .bool (co s q)]⟩) | _ => none)),
  (33, .v (sPar pv pe)),
  (34, .v (fun | [.string s, .string q] => some (True, .bool (hp s q)) | _ => none))]
def ΓPp (nv : ByteArray → ByteArray → ByteArray → Int) (no : ByteArray → ByteArray → ByteArray → Bool) (cw cp : ByteArray → ByteArray → ByteArray) (co : ByteArray → ByteArray → Bool) : List (FuncId × CSpec) := [
  (19, .v (fun | [.string s, .string q] => some (SQ s q, .tuple ⟨[.string (cw s q), .string (cp s q), .bool (co s q)]⟩) | _ => none)),
  (20, .v (fun | [.string s, .string p, .string m] => some (SQ3 s p m, .tuple ⟨[.int .i64 (nv s p m), .bool (no s p m)]⟩) | _ => none))]
/-! The reference's reading: an index to the first blank. -/
structure NoSp (l : List UInt8) (i : Nat) : Prop where
  le : i ≤ l.length
  no : 32 ∉ l.take i
def annRd (l : List UInt8) : Ann where
  σ := Nat
  st := fun s i => ⟨lset (keepA s 57 [0, 2, 3]) 4 (.v (.int .i64 i)), s.hp⟩
  inv := fun _ i => NoSp l i
  μ := fun _ i => l.length - i
def ARd (l : List UInt8) : FuncId → List (Nat × LoopBy) := fun _ => [(0, .ann (annRd l))]
def PmOk (s : ByteArray) (p m : Int) : Prop := SL s ∧ 0 ≤ p ∧ p ≤ 255 ∧ 0 ≤ m ∧ m ≤ 255 ∧ p ≠ m
def ΓRd (rv re : ByteArray → Int → Int → Int) : List (FuncId × CSpec) := [
  (22, .v (fun | [.string s, .int .u8 p, .int .u8 m] => some (PmOk s p m, .tuple ⟨[.int .i64 (rv s p m), .int .i64 (re s p m)]⟩) | _ => none))]
def ΓRn (pv pe : ByteArray → Int) : List (FuncId × CSpec) := [(36, .v (sPar pv pe))]
/-! Longitudes. -/
def sEvery : FSpec := fun | [] => some (True, arc (-10800000) 10800000) | _ => none
def allB (a b : Int) : Bool := a == -10800000 && (b == 10800000 && true)
def sAllB : FSpec := fun | [.agg ⟨[.int .i64 a, .int .i64 b]⟩] => some (True, .bool (allB a b)) | _ => none
def vLon (c d : Int) : Prop := (c = -10800000 ∧ d = 10800000) ∨ (-10800000 ≤ c ∧ c < 10800000 ∧ c ≤ d ∧ d < c + 21600000)
instance (c d : Int) : Decidable (vLon c d) := by unfold vLon; infer_instance
/-- The program's check wraps. -/
def pLon (c d : Int) : Prop := (c = -10800000 ∧ d = 10800000) ∨ (-10800000 ≤ c ∧ c < 10800000 ∧ c ≤ d ∧ IntKind.i64.wrap (d - c) < 21600000)
instance (c d : Int) : Decidable (pLon c d) := by unfold pLon; infer_instance
def ΓEv : List (FuncId × CSpec) := [(43, .v sEvery), (41, .v sEvery)]
def ΓAl : List (FuncId × CSpec) := (44, .v sAllB) :: ΓEv
def sLonB (f : Int → Int → Bool) : FSpec := fun | [.agg ⟨[.int .i64 a, .int .i64 b]⟩] => some (True, .bool (f a b)) | _ => none
/-! Printed places. -/
def ΓPn (pr : Int → Int → ByteArray) (e : Int → Int → Int) (lon : Int → Int → Bool) : List (FuncId × CSpec) := [(29, .v (sLonB lon)), (23, .v (fun | [.agg ⟨[.int .i64 a, .int .i64 b]⟩] => some (True, pair (.string (pr a b)) (num (e a b))) | _ => none))]
def ΓPq (pr : Int → Int → ByteArray) (e : Int → Int → Int) : List (FuncId × CSpec) := [(26, .v (fun | [.agg ⟨[.int .i64 a, .int .i64 b]⟩] => some (Val a b, pair (.string (pr a b)) (num (e a b))) | _ => none))]
/-! The laws. -/
def CdOk (c d : Int) : Prop := I64 c ∧ I64 d
def ByOk (a n : Int) : Prop := I64 (n - a)
def ΓBy : List (FuncId × CSpec) := [(59, .v sWrap)]
def ΓAr : List (FuncId × CSpec) := (45, .v (fun | [.agg ⟨[.int .i64 a, .int .i64 _]⟩, .int .i64 n] => some (ByOk a n, num ((n - a) % 21600000)) | _ => none)) :: ΓAl
def hullX : List (Int × Int) := [(10740000, 10740000), (-10740000, -10740000)]
def rAround : RSpec := fun
  | [.one (.r 33 (.pair (.int .i64) (.int .i64)) xs)] => some (xs = hullX, [.agg [.v (num 10740000), .v (num 10860000)]])
  | _ => none
def HuOk (l m : List Int) : Prop := l = [0, 0, 10740000, 10740000] ∧ m = [0, 0, -10740000, -10740000]
def VxOk (l : List Int) : Prop := l = [0, 0, 10740000, 10860000]
def ΓHu (lon : Int → Int → Bool) : List (FuncId × CSpec) := [(27, .r rAround), (29, .v (sLonB lon))]
def ΓAw (tx : Int → Int → ByteArray) (te : Int → Int → Int) : List (FuncId × CSpec) := [
  (16, .v (fun | [.agg ⟨[.int .i64 a, .int .i64 b, .int .i64 c, .int .i64 d]⟩, .agg ⟨[.int .i64 e, .int .i64 f, .int .i64 g, .int .i64 h]⟩] => some (HuOk [a, b, c, d] [e, f, g, h], .tuple ⟨[.agg ⟨[num 0, num 0, num 10740000, num 10860000]⟩, num 0]⟩) | _ => none)),
  (17, .v (fun | [.agg ⟨[.int .i64 a, .int .i64 b, .int .i64 c, .int .i64 d]⟩] => some (VxOk [a, b, c, d], .bool true) | _ => none)),
  (6, .v (fun | [.agg ⟨[.int .i64 a, .int .i64 b]⟩] => some (True, pair (.string (tx a b)) (num (te a b))) | _ => none))]
def AAw : FuncId → List (Nat × LoopBy) := fun _ => [(0, .times 3), (2, .times 3)]
def sPlY : FSpec := fun | [] => some (True, .bool true) | _ => none
def ΓLB (tx : Int → Int → ByteArray) (te : Int → Int → Int) (pa pb pe : ByteArray → Int) : List (FuncId × CSpec) := [(5, .v sPlY),
  (6, .v (fun | [.agg ⟨[.int .i64 a, .int .i64 b]⟩] => some (True, pair (.string (tx a b)) (num (te a b))) | _ => none)),
  (8, .v (fun | [.string s] => some (SL s, .tuple ⟨[.agg ⟨[.int .i64 (pa s), .int .i64 (pb s)]⟩, .int .i64 (pe s)]⟩) | _ => none))]
def ΓLX (tx rx : Int → Int → ByteArray) (te : Int → Int → Int) (pa pb pe : ByteArray → Int) (pp rp : Int → Int → Int → Int → ByteArray) (pf : Int → Int → Int → Int → Int) (vP : Int → Int → Prop) (vL : Int → Int → Int → Int → Prop) (lon : Int → Int → Bool) : List (FuncId × CSpec) :=
  ΓLB tx te pa pb pe ++ [
  (10, .v (fun | [.agg ⟨[.int .i64 a, .int .i64 b]⟩] => some (vP a b, .string (rx a b)) | _ => none)),
  (11, .v (fun | [.string s] => some (SL s, .tuple ⟨[.agg ⟨[.int .i64 (pa s), .int .i64 (pb s)]⟩, .int .i64 (pe s)]⟩) | _ => none)),
  (12, .v (fun | [.agg ⟨[.int .i64 a, .int .i64 b, .int .i64 c, .int .i64 d]⟩] => some (CdOk c d, pair (.string (pp a b c d)) (num (pf a b c d))) | _ => none)),
  (14, .v (fun | [.agg ⟨[.int .i64 a, .int .i64 b, .int .i64 c, .int .i64 d]⟩] => some (vL a b c d, .string (rp a b c d)) | _ => none)),
  (25, .v (sLonB lon))]
end Go.Proofs.YtbpeakgiajcfeaaDoor
