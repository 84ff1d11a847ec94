/- The region around a place: what its parts answer at the example. -/
import Derived.Test.YtjdcicjhpegphaaGreatWbC
namespace Go.Proofs.YtjdcicjhpegphaaGreat
open Go Go.Abs Go.RowKit Go.Sine
set_option linter.unusedVariables false
abbrev cel (l r c : Int) : Value := .agg ⟨[.int .i64 l, .int .i64 r, .int .i64 c]⟩
/-- A number, made plain where it is known. -/
def forceN {α : Type} (n : Nat) (k : Nat → α) : α := match n with | 0 => k 0 | m + 1 => k (m + 1)
def forceI {α : Type} (x : Int) (k : Int → α) : α := match x with | .ofNat n => forceN n fun n => k (.ofNat n) | .negSucc n => forceN n fun n => k (.negSucc n)
theorem forceN_eq {α : Type} (n : Nat) (k : Nat → α) : forceN n k = k n := by cases n <;> rfl
theorem forceI_eq {α : Type} (x : Int) (k : Int → α) : forceI x k = k x := by cases x <;> (unfold forceI; exact forceN_eq _ _)
/-- A cell of the example. -/
def ClOk (l r c : Int) : Prop := (0 ≤ l ∧ l ≤ 3) ∧ (0 ≤ r ∧ r < 2 ^ l.toNat) ∧ 0 ≤ c ∧ c < 2 * 2 ^ l.toNat
def sClV : FSpec := fun | [.agg ⟨[.int .i64 l, .int .i64 r, .int .i64 c]⟩] => some (ClOk l r c, .bool true) | _ => none
def bx1 (l r : Int) : Int := edI r l - 5400000
def bx2 (l c : Int) : Int := edI c l - 10800000
def sBox : FSpec := fun | [.agg ⟨[.int .i64 l, .int .i64 r, .int .i64 c]⟩] => forceI l fun l => forceI r fun r => forceI c fun c => some (ClOk l r c, plc (bx1 l r) (bx1 l (r + 1)) (bx2 l c) (bx2 l (c + 1))) | _ => none
/-- A box of the example: not all longitudes. -/
def BoOk (z1 z2 z3 z4 a b c d : Int) : Prop := (z1 = 0 ∧ z2 = 0 ∧ z3 = 0 ∧ z4 = 0) ∧ (-5400000 ≤ a ∧ a < b ∧ b ≤ 5400000) ∧ -10800000 ≤ c ∧ c < d ∧ d ≤ 10800000 ∧ d < c + 21600000
def mtB (a b c d : Int) : Bool := decide ((a ≤ 0 ∧ 0 ≤ b) ∧ (c ≤ 0 ∧ 0 ≤ d))
def sMeet : FSpec := fun | [.agg ⟨[.int .i64 z1, .int .i64 z2, .int .i64 z3, .int .i64 z4]⟩, .agg ⟨[.int .i64 a, .int .i64 b, .int .i64 c, .int .i64 d]⟩] => forceI a fun a => forceI b fun b => forceI c fun c => forceI d fun d => some (BoOk z1 z2 z3 z4 a b c d, .bool (mtB a b c d)) | _ => none
def sInsd : FSpec := fun | [.agg ⟨[.int .i64 a, .int .i64 b, .int .i64 c, .int .i64 d]⟩, .agg ⟨[.int .i64 z1, .int .i64 z2, .int .i64 z3, .int .i64 z4]⟩] => some (BoOk z1 z2 z3 z4 a b c d, .bool false) | _ => none
abbrev cET : ET := .pair (.int .i64) (.pair (.int .i64) (.int .i64))
def chL (l r c : Int) : List (Int × Int × Int) := [(l + 1, 2 * r, 2 * c), (l + 1, 2 * r, 2 * c + 1), (l + 1, 2 * r + 1, 2 * c), (l + 1, 2 * r + 1, 2 * c + 1)]
def rChi : RSpec := fun
  | [.one (.v (.agg ⟨[.int .i64 l, .int .i64 r, .int .i64 c]⟩))] => forceI l fun l => forceI r fun r => forceI c fun c => some (ClOk l r c, [.one (.r 111 cET (chL l r c)), .one (.v (num 0))])
  | _ => none
def ΓBx : List (FuncId × CSpec) := [(170, .v sEdge), (144, .v sClV)]
def ΓCh : List (FuncId × CSpec) := [(144, .v sClV)]
def rAr2 : RSpec := fun
  | [.one (.r 23 (.pair (.int .i64) (.int .i64)) xs)] => some (xs = arX, [.agg [.v (num 0), .v (num 0)]])
  | _ => none
def ΓMt : List (FuncId × CSpec) := [(58, .v sPlV), (129, .v sAllB), (150, .v sEvery), (160, .v sBvd), (159, .r rAr2), (63, .v sSgn)]
end Go.Proofs.YtjdcicjhpegphaaGreat
