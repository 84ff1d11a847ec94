/- Texts of wide integers: lists of callees, and the heads of loops. -/
import Derived.Test.YtmghbedgfnlpoaaDoorSpecU
import Derived.Test.YtmghbedgfnlpoaaDoorStrs
namespace Go.Proofs.YtmghbedgfnlpoaaDoor
open Go Go.Abs Go.RowKit
set_option linter.unusedVariables false
def twL (v : Int) : List UInt8 := (if v < 0 then [45] else []) ++ Lib.decDigits v.natAbs
def twB (v : Int) : ByteArray := ⟨(twL v).toArray⟩
def FuOk (n b : Int) : Prop := U64 n ∧ b = 10
def RpOk (s : ByteArray) (n : Int) : Prop := s = ⟨#[48]⟩ ∧ 0 ≤ n ∧ n ≤ 100
def SzIs (a b H L : Int) (N : Bool) : Prop := WV a b ∧ H = absI (val a b) / 18446744073709551616 ∧ L = absI (val a b) % 18446744073709551616 ∧ N = decide (val a b < 0)
def DvOk (h l d : Int) : Prop := U64 h ∧ U64 l ∧ U64 d ∧ h < d
def ΓTx (H L : Int) (N : Bool) (dq dr : Int → Int → Int → Int) (fu : Int → ByteArray) (rp : ByteArray → Int → ByteArray) : List (FuncId × CSpec) := [(13, .v sWValid),
  (14, .v (fun | [.agg ⟨[.int .i64 a, .int .i64 b]⟩] => some (SzIs a b H L N, siz H L N) | _ => none)),
  (15, .v (fun | [.int .u64 h, .int .u64 l, .int .u64 d] => some (DvOk h l d, pair (.int .u64 (dq h l d)) (.int .u64 (dr h l d))) | _ => none)),
  (16, .v (fun | [.int .u64 n, .int .i64 b] => some (FuOk n b, .string (fu n)) | _ => none)),
  (17, .v (fun | [.string s, .int .i64 n] => some (RpOk s n, .string (rp s n)) | _ => none)),
  (18, .v (fun | [.string s, .string c] => some (False, .string s) | _ => none))]
def ΓFu (fu : Int → ByteArray) : List (FuncId × CSpec) := [(26, .v (fun | [.int .u64 n, .int .i64 b] => some (FuOk n b, .string (fu n)) | _ => none))]
def ATw : FuncId → List (Nat × LoopBy) := fun _ => [(0, .times 2)]
/-- The reference's loop: what is left, and the digits so far. -/
def annRt (m : Nat) : Ann where
  σ := Nat × List UInt8
  st := fun s x => ⟨lset (lset (keepA s 45 [3]) 4 (.v (.string ⟨x.2.toArray⟩))) 5 (.ps s.hp.length 0 1 (dig x.1).length), killA s.hp (blkA s 5) ++ rowB (dig x.1)⟩
  inv := fun _ x => x.1 ≤ m ∧ digL x.1 0 ++ x.2 = digL m 0
  μ := fun _ x => x.1
def ARt (m : Nat) : FuncId → List (Nat × LoopBy) := fun _ => [(0, .ann (annRt m))]
def ΓRt : List (FuncId × CSpec) := [(19, .r sOfWide), (20, .r sOver)]
def ΓLt (tw : Int → Int → ByteArray) (te : Int → Int → Int) (tr : Int → Int → ByteArray) : List (FuncId × CSpec) := [(4, .v sAwake),
  (5, .v (fun | [.agg ⟨[.int .i64 a, .int .i64 b]⟩] => some (True, pair (.string (tw a b)) (num (te a b))) | _ => none)),
  (6, .v sValidR),
  (7, .v (fun | [.agg ⟨[.int .i64 a, .int .i64 b]⟩] => some (WV a b, .string (tr a b)) | _ => none))]
end Go.Proofs.YtmghbedgfnlpoaaDoor
