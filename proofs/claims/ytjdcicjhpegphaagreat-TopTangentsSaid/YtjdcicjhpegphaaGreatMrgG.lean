/- Several texts in one: AteS, AteV, AteC, TrjA, AtfS, AtfV, AtfC. -/
import Derived.Test.YtjdcicjhpegphaaGreatMrgE
import Derived.Test.YtjdcicjhpegphaaGreatMrgD
import Derived.Test.YtjdcicjhpegphaaGreatMrgC
/- The directions of a box: what the functions answer. -/
namespace Go.Proofs.YtjdcicjhpegphaaGreat
open Go Go.Abs Go.RowKit
set_option linter.unusedVariables false
/-- The way from a point to another one goes to greater angles, or nowhere. -/
def befI (x y z u : Int) : Bool := decide (x * u ≥ y * z)
/-- A number of an interval. -/
def Fx2 (x : Int) : Prop := -2147483648 ≤ x ∧ x ≤ 2147483648
def BfOk (x y z u : Int) : Prop := Fx2 x ∧ Fx2 y ∧ Fx2 z ∧ Fx2 u
def sBef (bf : Int → Int → Int → Int → Bool) : FSpec := fun | [.agg ⟨[.int .i64 x, .int .i64 y]⟩, .agg ⟨[.int .i64 z, .int .i64 u]⟩] => some (BfOk x y z u, .bool (bf x y z u)) | _ => none
def sAng (ap : Int → Int → Int) (ex : Int → Int → Bool) : FSpec := fun | [.agg ⟨[.int .i64 x, .int .i64 y]⟩] => some (PlOk x y, pair (num (ap x y)) (.bool (ex x y))) | _ => none
def ΓBe (ap : Int → Int → Int) (ex : Int → Int → Bool) (bf : Int → Int → Int → Int → Bool) : List (FuncId × CSpec) := [(91, .v sFxValid), (122, .v (sBef bf)), (123, .v (sAng ap ex))]
structure Fo where
  a : Int
  b : Int
  c : Int
  d : Int
/-- Behind a round: the two points that are chosen. -/
structure FoR (fa fb fc fd : Int → Int) (i a b c d : Int) : Prop where
  ea : a = fa i
  eb : b = fb i
  ec : c = fc i
  ed : d = fd i
def joinBe (fa fb fc fd : Int → Int) : Ann where
  σ := Fo
  st := fun s v => ⟨keepA s 103 [2, 3, 4, 5, 6, 7, 8, 68, 69], setCs ⟨[], setCs s 4 [.v (.int .i64 v.a), .v (.int .i64 v.b)]⟩ 5 [.v (.int .i64 v.c), .v (.int .i64 v.d)]⟩
  inv := fun s v => FoR fa fb fc fd (intA s 69) v.a v.b v.c v.d
  μ := fun _ _ => 0
def ABe (fa fb fc fd : Int → Int) : FuncId → List (Nat × LoopBy) := fun _ => [(0, .times 5), (1, .join (joinBe fa fb fc fd))]
end Go.Proofs.YtjdcicjhpegphaaGreat

/- The directions of a box: what the function asks. -/
namespace Go.Proofs.YtjdcicjhpegphaaGreat
open Go Go.Abs Go.RowKit
set_option linter.unusedVariables false
set_option linter.unusedSimpArgs false
theorem vc_atbearing (yl yh xl xh : Int) (ap : Int → Int → Int) (ex : Int → Int → Bool) (bf : Int → Int → Int → Int → Bool) (fa fb fc fd : Int → Int) (K : Value → Prop) : callsX Tryz.prog (ΓBe ap ex bf) (ABe fa fb fc fd) 77 [wid yl yh, wid xl xh] K = (
 True ∧
 bcase (!decide (FixV xl xh)) (K (Value.tuple #[Value.agg #[Value.int IntKind.i64 0, Value.int IntKind.i64 0], Value.int IntKind.i64 1]))
 (True ∧
 bcase (!decide (FixV yl yh)) (K (Value.tuple #[Value.agg #[Value.int IntKind.i64 0, Value.int IntKind.i64 0], Value.int IntKind.i64 1]))
 (bcase (decide (xl ≤ 0))
 (bcase (decide (xh ≥ 0))
 (bcase (decide (yl ≤ 0))
 (bcase (decide (yh ≥ 0)) (K (Value.tuple #[Value.agg #[Value.int IntKind.i64 0, Value.int IntKind.i64 21600000], Value.int IntKind.i64 0]))
 ((∀ (s : Fo),
 FoR fa fb fc fd 0 s.1 s.2 s.3 s.4 →
 (∀ (s : Fo),
 FoR fa fb fc fd (IntKind.i64.wrap (0 + 1)) s.1 s.2 s.3 s.4 →
 (∀ (s : Fo),
 FoR fa fb fc fd (IntKind.i64.wrap (IntKind.i64.wrap (0 + 1) + 1)) s.1 s.2 s.3 s.4 →
 (∀ (s : Fo),
 FoR fa fb fc fd (IntKind.i64.wrap (IntKind.i64.wrap (IntKind.i64.wrap (0 + 1) + 1) + 1)) s.1 s.2 s.3 s.4 →
 PlOk s.1 s.2 ∧
 PlOk s.3 s.4 ∧
 bcase (decide (ap s.c s.d < ap s.a s.b))
 (bcase (!ex s.c s.d) (K (Value.tuple #[Value.agg #[Value.int IntKind.i64 (ap s.a s.b), Value.int IntKind.i64 (IntKind.i64.wrap (IntKind.i64.wrap (ap s.c s.d + 21600000) + 1))], Value.int IntKind.i64 0])) (K (Value.tuple #[Value.agg #[Value.int IntKind.i64 (ap s.a s.b), Value.int IntKind.i64 (IntKind.i64.wrap (ap s.c s.d + 21600000))], Value.int IntKind.i64 0])))
 (bcase (!ex s.c s.d) (K (Value.tuple #[Value.agg #[Value.int IntKind.i64 (ap s.a s.b), Value.int IntKind.i64 (IntKind.i64.wrap (ap s.c s.d + 1))], Value.int IntKind.i64 0])) (K (Value.tuple #[Value.agg #[Value.int IntKind.i64 (ap s.a s.b), Value.int IntKind.i64 (ap s.c s.d)], Value.int IntKind.i64 0])))) ∧
 BfOk xh yh s.1 s.2 ∧
 bcase (bf xh yh s.a s.b)
 (BfOk s.3 s.4 xh yh ∧
 bcase (bf s.c s.d xh yh)
 (∃ (s : Fo),
 (Int.ofNat 0 = 0 ∧
 Value.agg #[Value.int IntKind.i64 xl, Value.int IntKind.i64 yl, Value.int IntKind.i64 xl, Value.int IntKind.i64 yh, Value.int IntKind.i64 xh, Value.int IntKind.i64 yl, Value.int IntKind.i64 xh, Value.int IntKind.i64 yh] =
 Value.agg #[Value.int IntKind.i64 xl, Value.int IntKind.i64 yl, Value.int IntKind.i64 xl, Value.int IntKind.i64 yh, Value.int IntKind.i64 xh, Value.int IntKind.i64 yl, Value.int IntKind.i64 xh, Value.int IntKind.i64 yh] ∧
 IntKind.i64.wrap (IntKind.i64.wrap (IntKind.i64.wrap (0 + 1) + 1) + 1) = IntKind.i64.wrap (IntKind.i64.wrap (IntKind.i64.wrap (0 + 1) + 1) + 1) ∧ yl = yl ∧ yh = yh ∧ xl = xl ∧ xh = xh ∧ Int.ofNat 0 = 0 ∧ Int.ofNat 0 = 0 ∧ xl = xl ∧ yl = yl ∧ xl = xl ∧ yh = yh ∧ xh = xh ∧ yl = yl ∧ xh = xh ∧ yh = yh ∧ xh = s.1 ∧ yh = s.2 ∧ xh = s.3 ∧ yh = s.4 ∧ True) ∧
 FoR fa fb fc fd (IntKind.i64.wrap (IntKind.i64.wrap (IntKind.i64.wrap (0 + 1) + 1) + 1)) s.1 s.2 s.3 s.4)
 (∃ (s_1 : Fo),
 (Int.ofNat 0 = 0 ∧
 Value.agg #[Value.int IntKind.i64 xl, Value.int IntKind.i64 yl, Value.int IntKind.i64 xl, Value.int IntKind.i64 yh, Value.int IntKind.i64 xh, Value.int IntKind.i64 yl, Value.int IntKind.i64 xh, Value.int IntKind.i64 yh] =
 Value.agg #[Value.int IntKind.i64 xl, Value.int IntKind.i64 yl, Value.int IntKind.i64 xl, Value.int IntKind.i64 yh, Value.int IntKind.i64 xh, Value.int IntKind.i64 yl, Value.int IntKind.i64 xh, Value.int IntKind.i64 yh] ∧
 IntKind.i64.wrap (IntKind.i64.wrap (IntKind.i64.wrap (0 + 1) + 1) + 1) = IntKind.i64.wrap (IntKind.i64.wrap (IntKind.i64.wrap (0 + 1) + 1) + 1) ∧ yl = yl ∧ yh = yh ∧ xl = xl ∧ xh = xh ∧ Int.ofNat 0 = 0 ∧ Int.ofNat 0 = 0 ∧ xl = xl ∧ yl = yl ∧ xl = xl ∧ yh = yh ∧ xh = xh ∧ yl = yl ∧ xh = xh ∧ yh = yh ∧ xh = s_1.1 ∧ yh = s_1.2 ∧ s.3 = s_1.3 ∧ s.4 = s_1.4 ∧ True) ∧
 FoR fa fb fc fd (IntKind.i64.wrap (IntKind.i64.wrap (IntKind.i64.wrap (0 + 1) + 1) + 1)) s_1.1 s_1.2 s_1.3 s_1.4))
 (BfOk s.3 s.4 xh yh ∧
 bcase (bf s.c s.d xh yh)
 (∃ (s_1 : Fo),
 (Int.ofNat 0 = 0 ∧
 Value.agg #[Value.int IntKind.i64 xl, Value.int IntKind.i64 yl, Value.int IntKind.i64 xl, Value.int IntKind.i64 yh, Value.int IntKind.i64 xh, Value.int IntKind.i64 yl, Value.int IntKind.i64 xh, Value.int IntKind.i64 yh] =
 Value.agg #[Value.int IntKind.i64 xl, Value.int IntKind.i64 yl, Value.int IntKind.i64 xl, Value.int IntKind.i64 yh, Value.int IntKind.i64 xh, Value.int IntKind.i64 yl, Value.int IntKind.i64 xh, Value.int IntKind.i64 yh] ∧
 IntKind.i64.wrap (IntKind.i64.wrap (IntKind.i64.wrap (0 + 1) + 1) + 1) = IntKind.i64.wrap (IntKind.i64.wrap (IntKind.i64.wrap (0 + 1) + 1) + 1) ∧ yl = yl ∧ yh = yh ∧ xl = xl ∧ xh = xh ∧ Int.ofNat 0 = 0 ∧ Int.ofNat 0 = 0 ∧ xl = xl ∧ yl = yl ∧ xl = xl ∧ yh = yh ∧ xh = xh ∧ yl = yl ∧ xh = xh ∧ yh = yh ∧ s.1 = s_1.1 ∧ s.2 = s_1.2 ∧ xh = s_1.3 ∧ yh = s_1.4 ∧ True) ∧
 FoR fa fb fc fd (IntKind.i64.wrap (IntKind.i64.wrap (IntKind.i64.wrap (0 + 1) + 1) + 1)) s_1.1 s_1.2 s_1.3 s_1.4)
 (∃ (s_1 : Fo),
 (Int.ofNat 0 = 0 ∧
 Value.agg #[Value.int IntKind.i64 xl, Value.int IntKind.i64 yl, Value.int IntKind.i64 xl, Value.int IntKind.i64 yh, Value.int IntKind.i64 xh, Value.int IntKind.i64 yl, Value.int IntKind.i64 xh, Value.int IntKind.i64 yh] =
 Value.agg #[Value.int IntKind.i64 xl, Value.int IntKind.i64 yl, Value.int IntKind.i64 xl, Value.int IntKind.i64 yh, Value.int IntKind.i64 xh, Value.int IntKind.i64 yl, Value.int IntKind.i64 xh, Value.int IntKind.i64 yh] ∧
 IntKind.i64.wrap (IntKind.i64.wrap (IntKind.i64.wrap (0 + 1) + 1) + 1) = IntKind.i64.wrap (IntKind.i64.wrap (IntKind.i64.wrap (0 + 1) + 1) + 1) ∧ yl = yl ∧ yh = yh ∧ xl = xl ∧ xh = xh ∧ Int.ofNat 0 = 0 ∧ Int.ofNat 0 = 0 ∧ xl = xl ∧ yl = yl ∧ xl = xl ∧ yh = yh ∧ xh = xh ∧ yl = yl ∧ xh = xh ∧ yh = yh ∧ s.1 = s_1.1 ∧ s.2 = s_1.2 ∧ s.3 = s_1.3 ∧ s.4 = s_1.4 ∧ True) ∧
 FoR fa fb fc fd (IntKind.i64.wrap (IntKind.i64.wrap (IntKind.i64.wrap (0 + 1) + 1) + 1)) s_1.1 s_1.2 s_1.3 s_1.4))) ∧
 BfOk xh yl s.1 s.2 ∧
 bcase (bf xh yl s.a s.b)
 (BfOk s.3 s.4 xh yl ∧
 bcase (bf s.c s.d xh yl)
 (∃ (s : Fo),
 (Int.ofNat 0 = 0 ∧
 Value.agg #[Value.int IntKind.i64 xl, Value.int IntKind.i64 yl, Value.int IntKind.i64 xl, Value.int IntKind.i64 yh, Value.int IntKind.i64 xh, Value.int IntKind.i64 yl, Value.int IntKind.i64 xh, Value.int IntKind.i64 yh] =
 Value.agg #[Value.int IntKind.i64 xl, Value.int IntKind.i64 yl, Value.int IntKind.i64 xl, Value.int IntKind.i64 yh, Value.int IntKind.i64 xh, Value.int IntKind.i64 yl, Value.int IntKind.i64 xh, Value.int IntKind.i64 yh] ∧
 IntKind.i64.wrap (IntKind.i64.wrap (0 + 1) + 1) = IntKind.i64.wrap (IntKind.i64.wrap (0 + 1) + 1) ∧ yl = yl ∧ yh = yh ∧ xl = xl ∧ xh = xh ∧ Int.ofNat 0 = 0 ∧ Int.ofNat 0 = 0 ∧ xl = xl ∧ yl = yl ∧ xl = xl ∧ yh = yh ∧ xh = xh ∧ yl = yl ∧ xh = xh ∧ yh = yh ∧ xh = s.1 ∧ yl = s.2 ∧ xh = s.3 ∧ yl = s.4 ∧ True) ∧
 FoR fa fb fc fd (IntKind.i64.wrap (IntKind.i64.wrap (0 + 1) + 1)) s.1 s.2 s.3 s.4)
 (∃ (s_1 : Fo),
 (Int.ofNat 0 = 0 ∧
 Value.agg #[Value.int IntKind.i64 xl, Value.int IntKind.i64 yl, Value.int IntKind.i64 xl, Value.int IntKind.i64 yh, Value.int IntKind.i64 xh, Value.int IntKind.i64 yl, Value.int IntKind.i64 xh, Value.int IntKind.i64 yh] =
 Value.agg #[Value.int IntKind.i64 xl, Value.int IntKind.i64 yl, Value.int IntKind.i64 xl, Value.int IntKind.i64 yh, Value.int IntKind.i64 xh, Value.int IntKind.i64 yl, Value.int IntKind.i64 xh, Value.int IntKind.i64 yh] ∧
 IntKind.i64.wrap (IntKind.i64.wrap (0 + 1) + 1) = IntKind.i64.wrap (IntKind.i64.wrap (0 + 1) + 1) ∧ yl = yl ∧ yh = yh ∧ xl = xl ∧ xh = xh ∧ Int.ofNat 0 = 0 ∧ Int.ofNat 0 = 0 ∧ xl = xl ∧ yl = yl ∧ xl = xl ∧ yh = yh ∧ xh = xh ∧ yl = yl ∧ xh = xh ∧ yh = yh ∧ xh = s_1.1 ∧ yl = s_1.2 ∧ s.3 = s_1.3 ∧ s.4 = s_1.4 ∧ True) ∧
 FoR fa fb fc fd (IntKind.i64.wrap (IntKind.i64.wrap (0 + 1) + 1)) s_1.1 s_1.2 s_1.3 s_1.4))
 (BfOk s.3 s.4 xh yl ∧
 bcase (bf s.c s.d xh yl)
 (∃ (s_1 : Fo),
 (Int.ofNat 0 = 0 ∧
 Value.agg #[Value.int IntKind.i64 xl, Value.int IntKind.i64 yl, Value.int IntKind.i64 xl, Value.int IntKind.i64 yh, Value.int IntKind.i64 xh, Value.int IntKind.i64 yl, Value.int IntKind.i64 xh, Value.int IntKind.i64 yh] =
 Value.agg #[Value.int IntKind.i64 xl, Value.int IntKind.i64 yl, Value.int IntKind.i64 xl, Value.int IntKind.i64 yh, Value.int IntKind.i64 xh, Value.int IntKind.i64 yl, Value.int IntKind.i64 xh, Value.int IntKind.i64 yh] ∧
 IntKind.i64.wrap (IntKind.i64.wrap (0 + 1) + 1) = IntKind.i64.wrap (IntKind.i64.wrap (0 + 1) + 1) ∧ yl = yl ∧ yh = yh ∧ xl = xl ∧ xh = xh ∧ Int.ofNat 0 = 0 ∧ Int.ofNat 0 = 0 ∧ xl = xl ∧ yl = yl ∧ xl = xl ∧ yh = yh ∧ xh = xh ∧ yl = yl ∧ xh = xh ∧ yh = yh ∧ s.1 = s_1.1 ∧ s.2 = s_1.2 ∧ xh = s_1.3 ∧ yl = s_1.4 ∧ True) ∧
 FoR fa fb fc fd (IntKind.i64.wrap (IntKind.i64.wrap (0 + 1) + 1)) s_1.1 s_1.2 s_1.3 s_1.4)
 (∃ (s_1 : Fo),
 (Int.ofNat 0 = 0 ∧
 Value.agg #[Value.int IntKind.i64 xl, Value.int IntKind.i64 yl, Value.int IntKind.i64 xl, Value.int IntKind.i64 yh, Value.int IntKind.i64 xh, Value.int IntKind.i64 yl, Value.int IntKind.i64 xh, Value.int IntKind.i64 yh] =
 Value.agg #[Value.int IntKind.i64 xl, Value.int IntKind.i64 yl, Value.int IntKind.i64 xl, Value.int IntKind.i64 yh, Value.int IntKind.i64 xh, Value.int IntKind.i64 yl, Value.int IntKind.i64 xh, Value.int IntKind.i64 yh] ∧
 IntKind.i64.wrap (IntKind.i64.wrap (0 + 1) + 1) = IntKind.i64.wrap (IntKind.i64.wrap (0 + 1) + 1) ∧ yl = yl ∧ yh = yh ∧ xl = xl ∧ xh = xh ∧ Int.ofNat 0 = 0 ∧ Int.ofNat 0 = 0 ∧ xl = xl ∧ yl = yl ∧ xl = xl ∧ yh = yh ∧ xh = xh ∧ yl = yl ∧ xh = xh ∧ yh = yh ∧ s.1 = s_1.1 ∧ s.2 = s_1.2 ∧ s.3 = s_1.3 ∧ s.4 = s_1.4 ∧ True) ∧
 FoR fa fb fc fd (IntKind.i64.wrap (IntKind.i64.wrap (0 + 1) + 1)) s_1.1 s_1.2 s_1.3 s_1.4))) ∧
 BfOk xl yh s.1 s.2 ∧
 bcase (bf xl yh s.a s.b)
 (BfOk s.3 s.4 xl yh ∧
 bcase (bf s.c s.d xl yh)
 (∃ (s : Fo),
 (Int.ofNat 0 = 0 ∧
 Value.agg #[Value.int IntKind.i64 xl, Value.int IntKind.i64 yl, Value.int IntKind.i64 xl, Value.int IntKind.i64 yh, Value.int IntKind.i64 xh, Value.int IntKind.i64 yl, Value.int IntKind.i64 xh, Value.int IntKind.i64 yh] =
 Value.agg #[Value.int IntKind.i64 xl, Value.int IntKind.i64 yl, Value.int IntKind.i64 xl, Value.int IntKind.i64 yh, Value.int IntKind.i64 xh, Value.int IntKind.i64 yl, Value.int IntKind.i64 xh, Value.int IntKind.i64 yh] ∧
 IntKind.i64.wrap (0 + 1) = IntKind.i64.wrap (0 + 1) ∧ yl = yl ∧ yh = yh ∧ xl = xl ∧ xh = xh ∧ Int.ofNat 0 = 0 ∧ Int.ofNat 0 = 0 ∧ xl = xl ∧ yl = yl ∧ xl = xl ∧ yh = yh ∧ xh = xh ∧ yl = yl ∧ xh = xh ∧ yh = yh ∧ xl = s.1 ∧ yh = s.2 ∧ xl = s.3 ∧ yh = s.4 ∧ True) ∧
 FoR fa fb fc fd (IntKind.i64.wrap (0 + 1)) s.1 s.2 s.3 s.4)
 (∃ (s_1 : Fo),
 (Int.ofNat 0 = 0 ∧
 Value.agg #[Value.int IntKind.i64 xl, Value.int IntKind.i64 yl, Value.int IntKind.i64 xl, Value.int IntKind.i64 yh, Value.int IntKind.i64 xh, Value.int IntKind.i64 yl, Value.int IntKind.i64 xh, Value.int IntKind.i64 yh] =
 Value.agg #[Value.int IntKind.i64 xl, Value.int IntKind.i64 yl, Value.int IntKind.i64 xl, Value.int IntKind.i64 yh, Value.int IntKind.i64 xh, Value.int IntKind.i64 yl, Value.int IntKind.i64 xh, Value.int IntKind.i64 yh] ∧
 IntKind.i64.wrap (0 + 1) = IntKind.i64.wrap (0 + 1) ∧ yl = yl ∧ yh = yh ∧ xl = xl ∧ xh = xh ∧ Int.ofNat 0 = 0 ∧ Int.ofNat 0 = 0 ∧ xl = xl ∧ yl = yl ∧ xl = xl ∧ yh = yh ∧ xh = xh ∧ yl = yl ∧ xh = xh ∧ yh = yh ∧ xl = s_1.1 ∧ yh = s_1.2 ∧ s.3 = s_1.3 ∧ s.4 = s_1.4 ∧ True) ∧
 FoR fa fb fc fd (IntKind.i64.wrap (0 + 1)) s_1.1 s_1.2 s_1.3 s_1.4))
 (BfOk s.3 s.4 xl yh ∧
 bcase (bf s.c s.d xl yh)
 (∃ (s_1 : Fo),
 (Int.ofNat 0 = 0 ∧
 Value.agg #[Value.int IntKind.i64 xl, Value.int IntKind.i64 yl, Value.int IntKind.i64 xl, Value.int IntKind.i64 yh, Value.int IntKind.i64 xh, Value.int IntKind.i64 yl, Value.int IntKind.i64 xh, Value.int IntKind.i64 yh] =
 Value.agg #[Value.int IntKind.i64 xl, Value.int IntKind.i64 yl, Value.int IntKind.i64 xl, Value.int IntKind.i64 yh, Value.int IntKind.i64 xh, Value.int IntKind.i64 yl, Value.int IntKind.i64 xh, Value.int IntKind.i64 yh] ∧
 IntKind.i64.wrap (0 + 1) = IntKind.i64.wrap (0 + 1) ∧ yl = yl ∧ yh = yh ∧ xl = xl ∧ xh = xh ∧ Int.ofNat 0 = 0 ∧ Int.ofNat 0 = 0 ∧ xl = xl ∧ yl = yl ∧ xl = xl ∧ yh = yh ∧ xh = xh ∧ yl = yl ∧ xh = xh ∧ yh = yh ∧ s.1 = s_1.1 ∧ s.2 = s_1.2 ∧ xl = s_1.3 ∧ yh = s_1.4 ∧ True) ∧
 FoR fa fb fc fd (IntKind.i64.wrap (0 + 1)) s_1.1 s_1.2 s_1.3 s_1.4)
 (∃ (s_1 : Fo),
 (Int.ofNat 0 = 0 ∧
 Value.agg #[Value.int IntKind.i64 xl, Value.int IntKind.i64 yl, Value.int IntKind.i64 xl, Value.int IntKind.i64 yh, Value.int IntKind.i64 xh, Value.int IntKind.i64 yl, Value.int IntKind.i64 xh, Value.int IntKind.i64 yh] =
 Value.agg #[Value.int IntKind.i64 xl, Value.int IntKind.i64 yl, Value.int IntKind.i64 xl, Value.int IntKind.i64 yh, Value.int IntKind.i64 xh, Value.int IntKind.i64 yl, Value.int IntKind.i64 xh, Value.int IntKind.i64 yh] ∧
 IntKind.i64.wrap (0 + 1) = IntKind.i64.wrap (0 + 1) ∧ yl = yl ∧ yh = yh ∧ xl = xl ∧ xh = xh ∧ Int.ofNat 0 = 0 ∧ Int.ofNat 0 = 0 ∧ xl = xl ∧ yl = yl ∧ xl = xl ∧ yh = yh ∧ xh = xh ∧ yl = yl ∧ xh = xh ∧ yh = yh ∧ s.1 = s_1.1 ∧ s.2 = s_1.2 ∧ s.3 = s_1.3 ∧ s.4 = s_1.4 ∧ True) ∧
 FoR fa fb fc fd (IntKind.i64.wrap (0 + 1)) s_1.1 s_1.2 s_1.3 s_1.4))) ∧
 BfOk xl yl xl yl ∧
 bcase (bf xl yl xl yl)
 (BfOk xl yl xl yl ∧
 bcase (bf xl yl xl yl)
 (∃ (s : Fo),
 (Int.ofNat 0 = 0 ∧
 Value.agg #[Value.int IntKind.i64 xl, Value.int IntKind.i64 yl, Value.int IntKind.i64 xl, Value.int IntKind.i64 yh, Value.int IntKind.i64 xh, Value.int IntKind.i64 yl, Value.int IntKind.i64 xh, Value.int IntKind.i64 yh] =
 Value.agg #[Value.int IntKind.i64 xl, Value.int IntKind.i64 yl, Value.int IntKind.i64 xl, Value.int IntKind.i64 yh, Value.int IntKind.i64 xh, Value.int IntKind.i64 yl, Value.int IntKind.i64 xh, Value.int IntKind.i64 yh] ∧
 Int.ofNat 0 = 0 ∧ yl = yl ∧ yh = yh ∧ xl = xl ∧ xh = xh ∧ Int.ofNat 0 = 0 ∧ Int.ofNat 0 = 0 ∧ xl = xl ∧ yl = yl ∧ xl = xl ∧ yh = yh ∧ xh = xh ∧ yl = yl ∧ xh = xh ∧ yh = yh ∧ xl = s.1 ∧ yl = s.2 ∧ xl = s.3 ∧ yl = s.4 ∧ True) ∧
 FoR fa fb fc fd 0 s.1 s.2 s.3 s.4)
 (∃ (s : Fo),
 (Int.ofNat 0 = 0 ∧
 Value.agg #[Value.int IntKind.i64 xl, Value.int IntKind.i64 yl, Value.int IntKind.i64 xl, Value.int IntKind.i64 yh, Value.int IntKind.i64 xh, Value.int IntKind.i64 yl, Value.int IntKind.i64 xh, Value.int IntKind.i64 yh] =
 Value.agg #[Value.int IntKind.i64 xl, Value.int IntKind.i64 yl, Value.int IntKind.i64 xl, Value.int IntKind.i64 yh, Value.int IntKind.i64 xh, Value.int IntKind.i64 yl, Value.int IntKind.i64 xh, Value.int IntKind.i64 yh] ∧
 Int.ofNat 0 = 0 ∧ yl = yl ∧ yh = yh ∧ xl = xl ∧ xh = xh ∧ Int.ofNat 0 = 0 ∧ Int.ofNat 0 = 0 ∧ xl = xl ∧ yl = yl ∧ xl = xl ∧ yh = yh ∧ xh = xh ∧ yl = yl ∧ xh = xh ∧ yh = yh ∧ xl = s.1 ∧ yl = s.2 ∧ xl = s.3 ∧ yl = s.4 ∧ True) ∧
 FoR fa fb fc fd 0 s.1 s.2 s.3 s.4))
 (BfOk xl yl xl yl ∧
 bcase (bf xl yl xl yl)
 (∃ (s : Fo),
 (Int.ofNat 0 = 0 ∧
 Value.agg #[Value.int IntKind.i64 xl, Value.int IntKind.i64 yl, Value.int IntKind.i64 xl, Value.int IntKind.i64 yh, Value.int IntKind.i64 xh, Value.int IntKind.i64 yl, Value.int IntKind.i64 xh, Value.int IntKind.i64 yh] =
 Value.agg #[Value.int IntKind.i64 xl, Value.int IntKind.i64 yl, Value.int IntKind.i64 xl, Value.int IntKind.i64 yh, Value.int IntKind.i64 xh, Value.int IntKind.i64 yl, Value.int IntKind.i64 xh, Value.int IntKind.i64 yh] ∧
 Int.ofNat 0 = 0 ∧ yl = yl ∧ yh = yh ∧ xl = xl ∧ xh = xh ∧ Int.ofNat 0 = 0 ∧ Int.ofNat 0 = 0 ∧ xl = xl ∧ yl = yl ∧ xl = xl ∧ yh = yh ∧ xh = xh ∧ yl = yl ∧ xh = xh ∧ yh = yh ∧ xl = s.1 ∧ yl = s.2 ∧ xl = s.3 ∧ yl = s.4 ∧ True) ∧
 FoR fa fb fc fd 0 s.1 s.2 s.3 s.4)
 (∃ (s : Fo),
 (Int.ofNat 0 = 0 ∧
 Value.agg #[Value.int IntKind.i64 xl, Value.int IntKind.i64 yl, Value.int IntKind.i64 xl, Value.int IntKind.i64 yh, Value.int IntKind.i64 xh, Value.int IntKind.i64 yl, Value.int IntKind.i64 xh, Value.int IntKind.i64 yh] =
 Value.agg #[Value.int IntKind.i64 xl, Value.int IntKind.i64 yl, Value.int IntKind.i64 xl, Value.int IntKind.i64 yh, Value.int IntKind.i64 xh, Value.int IntKind.i64 yl, Value.int IntKind.i64 xh, Value.int IntKind.i64 yh] ∧
 Int.ofNat 0 = 0 ∧ yl = yl ∧ yh = yh ∧ xl = xl ∧ xh = xh ∧ Int.ofNat 0 = 0 ∧ Int.ofNat 0 = 0 ∧ xl = xl ∧ yl = yl ∧ xl = xl ∧ yh = yh ∧ xh = xh ∧ yl = yl ∧ xh = xh ∧ yh = yh ∧ xl = s.1 ∧ yl = s.2 ∧ xl = s.3 ∧ yl = s.4 ∧ True) ∧
 FoR fa fb fc fd 0 s.1 s.2 s.3 s.4))))
 ((∀ (s : Fo),
 FoR fa fb fc fd 0 s.1 s.2 s.3 s.4 →
 (∀ (s : Fo),
 FoR fa fb fc fd (IntKind.i64.wrap (0 + 1)) s.1 s.2 s.3 s.4 →
 (∀ (s : Fo),
 FoR fa fb fc fd (IntKind.i64.wrap (IntKind.i64.wrap (0 + 1) + 1)) s.1 s.2 s.3 s.4 →
 (∀ (s : Fo),
 FoR fa fb fc fd (IntKind.i64.wrap (IntKind.i64.wrap (IntKind.i64.wrap (0 + 1) + 1) + 1)) s.1 s.2 s.3 s.4 →
 PlOk s.1 s.2 ∧
 PlOk s.3 s.4 ∧
 bcase (decide (ap s.c s.d < ap s.a s.b))
 (bcase (!ex s.c s.d) (K (Value.tuple #[Value.agg #[Value.int IntKind.i64 (ap s.a s.b), Value.int IntKind.i64 (IntKind.i64.wrap (IntKind.i64.wrap (ap s.c s.d + 21600000) + 1))], Value.int IntKind.i64 0])) (K (Value.tuple #[Value.agg #[Value.int IntKind.i64 (ap s.a s.b), Value.int IntKind.i64 (IntKind.i64.wrap (ap s.c s.d + 21600000))], Value.int IntKind.i64 0])))
 (bcase (!ex s.c s.d) (K (Value.tuple #[Value.agg #[Value.int IntKind.i64 (ap s.a s.b), Value.int IntKind.i64 (IntKind.i64.wrap (ap s.c s.d + 1))], Value.int IntKind.i64 0])) (K (Value.tuple #[Value.agg #[Value.int IntKind.i64 (ap s.a s.b), Value.int IntKind.i64 (ap s.c s.d)], Value.int IntKind.i64 0])))) ∧
 BfOk xh yh s.1 s.2 ∧
 bcase (bf xh yh s.a s.b)
 (BfOk s.3 s.4 xh yh ∧
 bcase (bf s.c s.d xh yh)
 (∃ (s : Fo),
 (Int.ofNat 0 = 0 ∧
 Value.agg #[Value.int IntKind.i64 xl, Value.int IntKind.i64 yl, Value.int IntKind.i64 xl, Value.int IntKind.i64 yh, Value.int IntKind.i64 xh, Value.int IntKind.i64 yl, Value.int IntKind.i64 xh, Value.int IntKind.i64 yh] =
 Value.agg #[Value.int IntKind.i64 xl, Value.int IntKind.i64 yl, Value.int IntKind.i64 xl, Value.int IntKind.i64 yh, Value.int IntKind.i64 xh, Value.int IntKind.i64 yl, Value.int IntKind.i64 xh, Value.int IntKind.i64 yh] ∧
 IntKind.i64.wrap (IntKind.i64.wrap (IntKind.i64.wrap (0 + 1) + 1) + 1) = IntKind.i64.wrap (IntKind.i64.wrap (IntKind.i64.wrap (0 + 1) + 1) + 1) ∧ yl = yl ∧ yh = yh ∧ xl = xl ∧ xh = xh ∧ Int.ofNat 0 = 0 ∧ Int.ofNat 0 = 0 ∧ xl = xl ∧ yl = yl ∧ xl = xl ∧ yh = yh ∧ xh = xh ∧ yl = yl ∧ xh = xh ∧ yh = yh ∧ xh = s.1 ∧ yh = s.2 ∧ xh = s.3 ∧ yh = s.4 ∧ True) ∧
 FoR fa fb fc fd (IntKind.i64.wrap (IntKind.i64.wrap (IntKind.i64.wrap (0 + 1) + 1) + 1)) s.1 s.2 s.3 s.4)
 (∃ (s_1 : Fo),
 (Int.ofNat 0 = 0 ∧
 Value.agg #[Value.int IntKind.i64 xl, Value.int IntKind.i64 yl, Value.int IntKind.i64 xl, Value.int IntKind.i64 yh, Value.int IntKind.i64 xh, Value.int IntKind.i64 yl, Value.int IntKind.i64 xh, Value.int IntKind.i64 yh] =
 Value.agg #[Value.int IntKind.i64 xl, Value.int IntKind.i64 yl, Value.int IntKind.i64 xl, Value.int IntKind.i64 yh, Value.int IntKind.i64 xh, Value.int IntKind.i64 yl, Value.int IntKind.i64 xh, Value.int IntKind.i64 yh] ∧
 IntKind.i64.wrap (IntKind.i64.wrap (IntKind.i64.wrap (0 + 1) + 1) + 1) = IntKind.i64.wrap (IntKind.i64.wrap (IntKind.i64.wrap (0 + 1) + 1) + 1) ∧ yl = yl ∧ yh = yh ∧ xl = xl ∧ xh = xh ∧ Int.ofNat 0 = 0 ∧ Int.ofNat 0 = 0 ∧ xl = xl ∧ yl = yl ∧ xl = xl ∧ yh = yh ∧ xh = xh ∧ yl = yl ∧ xh = xh ∧ yh = yh ∧ xh = s_1.1 ∧ yh = s_1.2 ∧ s.3 = s_1.3 ∧ s.4 = s_1.4 ∧ True) ∧
 FoR fa fb fc fd (IntKind.i64.wrap (IntKind.i64.wrap (IntKind.i64.wrap (0 + 1) + 1) + 1)) s_1.1 s_1.2 s_1.3 s_1.4))
 (BfOk s.3 s.4 xh yh ∧
 bcase (bf s.c s.d xh yh)
 (∃ (s_1 : Fo),
 (Int.ofNat 0 = 0 ∧
 Value.agg #[Value.int IntKind.i64 xl, Value.int IntKind.i64 yl, Value.int IntKind.i64 xl, Value.int IntKind.i64 yh, Value.int IntKind.i64 xh, Value.int IntKind.i64 yl, Value.int IntKind.i64 xh, Value.int IntKind.i64 yh] =
 Value.agg #[Value.int IntKind.i64 xl, Value.int IntKind.i64 yl, Value.int IntKind.i64 xl, Value.int IntKind.i64 yh, Value.int IntKind.i64 xh, Value.int IntKind.i64 yl, Value.int IntKind.i64 xh, Value.int IntKind.i64 yh] ∧
 IntKind.i64.wrap (IntKind.i64.wrap (IntKind.i64.wrap (0 + 1) + 1) + 1) = IntKind.i64.wrap (IntKind.i64.wrap (IntKind.i64.wrap (0 + 1) + 1) + 1) ∧ yl = yl ∧ yh = yh ∧ xl = xl ∧ xh = xh ∧ Int.ofNat 0 = 0 ∧ Int.ofNat 0 = 0 ∧ xl = xl ∧ yl = yl ∧ xl = xl ∧ yh = yh ∧ xh = xh ∧ yl = yl ∧ xh = xh ∧ yh = yh ∧ s.1 = s_1.1 ∧ s.2 = s_1.2 ∧ xh = s_1.3 ∧ yh = s_1.4 ∧ True) ∧
 FoR fa fb fc fd (IntKind.i64.wrap (IntKind.i64.wrap (IntKind.i64.wrap (0 + 1) + 1) + 1)) s_1.1 s_1.2 s_1.3 s_1.4)
 (∃ (s_1 : Fo),
 (Int.ofNat 0 = 0 ∧
 Value.agg #[Value.int IntKind.i64 xl, Value.int IntKind.i64 yl, Value.int IntKind.i64 xl, Value.int IntKind.i64 yh, Value.int IntKind.i64 xh, Value.int IntKind.i64 yl, Value.int IntKind.i64 xh, Value.int IntKind.i64 yh] =
 Value.agg #[Value.int IntKind.i64 xl, Value.int IntKind.i64 yl, Value.int IntKind.i64 xl, Value.int IntKind.i64 yh, Value.int IntKind.i64 xh, Value.int IntKind.i64 yl, Value.int IntKind.i64 xh, Value.int IntKind.i64 yh] ∧
 IntKind.i64.wrap (IntKind.i64.wrap (IntKind.i64.wrap (0 + 1) + 1) + 1) = IntKind.i64.wrap (IntKind.i64.wrap (IntKind.i64.wrap (0 + 1) + 1) + 1) ∧ yl = yl ∧ yh = yh ∧ xl = xl ∧ xh = xh ∧ Int.ofNat 0 = 0 ∧ Int.ofNat 0 = 0 ∧ xl = xl ∧ yl = yl ∧ xl = xl ∧ yh = yh ∧ xh = xh ∧ yl = yl ∧ xh = xh ∧ yh = yh ∧ s.1 = s_1.1 ∧ s.2 = s_1.2 ∧ s.3 = s_1.3 ∧ s.4 = s_1.4 ∧ True) ∧
 FoR fa fb fc fd (IntKind.i64.wrap (IntKind.i64.wrap (IntKind.i64.wrap (0 + 1) + 1) + 1)) s_1.1 s_1.2 s_1.3 s_1.4))) ∧
 BfOk xh yl s.1 s.2 ∧
 bcase (bf xh yl s.a s.b)
 (BfOk s.3 s.4 xh yl ∧
 bcase (bf s.c s.d xh yl)
 (∃ (s : Fo),
 (Int.ofNat 0 = 0 ∧
 Value.agg #[Value.int IntKind.i64 xl, Value.int IntKind.i64 yl, Value.int IntKind.i64 xl, Value.int IntKind.i64 yh, Value.int IntKind.i64 xh, Value.int IntKind.i64 yl, Value.int IntKind.i64 xh, Value.int IntKind.i64 yh] =
 Value.agg #[Value.int IntKind.i64 xl, Value.int IntKind.i64 yl, Value.int IntKind.i64 xl, Value.int IntKind.i64 yh, Value.int IntKind.i64 xh, Value.int IntKind.i64 yl, Value.int IntKind.i64 xh, Value.int IntKind.i64 yh] ∧
 IntKind.i64.wrap (IntKind.i64.wrap (0 + 1) + 1) = IntKind.i64.wrap (IntKind.i64.wrap (0 + 1) + 1) ∧ yl = yl ∧ yh = yh ∧ xl = xl ∧ xh = xh ∧ Int.ofNat 0 = 0 ∧ Int.ofNat 0 = 0 ∧ xl = xl ∧ yl = yl ∧ xl = xl ∧ yh = yh ∧ xh = xh ∧ yl = yl ∧ xh = xh ∧ yh = yh ∧ xh = s.1 ∧ yl = s.2 ∧ xh = s.3 ∧ yl = s.4 ∧ True) ∧
 FoR fa fb fc fd (IntKind.i64.wrap (IntKind.i64.wrap (0 + 1) + 1)) s.1 s.2 s.3 s.4)
 (∃ (s_1 : Fo),
 (Int.ofNat 0 = 0 ∧
 Value.agg #[Value.int IntKind.i64 xl, Value.int IntKind.i64 yl, Value.int IntKind.i64 xl, Value.int IntKind.i64 yh, Value.int IntKind.i64 xh, Value.int IntKind.i64 yl, Value.int IntKind.i64 xh, Value.int IntKind.i64 yh] =
 Value.agg #[Value.int IntKind.i64 xl, Value.int IntKind.i64 yl, Value.int IntKind.i64 xl, Value.int IntKind.i64 yh, Value.int IntKind.i64 xh, Value.int IntKind.i64 yl, Value.int IntKind.i64 xh, Value.int IntKind.i64 yh] ∧
 IntKind.i64.wrap (IntKind.i64.wrap (0 + 1) + 1) = IntKind.i64.wrap (IntKind.i64.wrap (0 + 1) + 1) ∧ yl = yl ∧ yh = yh ∧ xl = xl ∧ xh = xh ∧ Int.ofNat 0 = 0 ∧ Int.ofNat 0 = 0 ∧ xl = xl ∧ yl = yl ∧ xl = xl ∧ yh = yh ∧ xh = xh ∧ yl = yl ∧ xh = xh ∧ yh = yh ∧ xh = s_1.1 ∧ yl = s_1.2 ∧ s.3 = s_1.3 ∧ s.4 = s_1.4 ∧ True) ∧
 FoR fa fb fc fd (IntKind.i64.wrap (IntKind.i64.wrap (0 + 1) + 1)) s_1.1 s_1.2 s_1.3 s_1.4))
 (BfOk s.3 s.4 xh yl ∧
 bcase (bf s.c s.d xh yl)
 (∃ (s_1 : Fo),
 (Int.ofNat 0 = 0 ∧
 Value.agg #[Value.int IntKind.i64 xl, Value.int IntKind.i64 yl, Value.int IntKind.i64 xl, Value.int IntKind.i64 yh, Value.int IntKind.i64 xh, Value.int IntKind.i64 yl, Value.int IntKind.i64 xh, Value.int IntKind.i64 yh] =
 Value.agg #[Value.int IntKind.i64 xl, Value.int IntKind.i64 yl, Value.int IntKind.i64 xl, Value.int IntKind.i64 yh, Value.int IntKind.i64 xh, Value.int IntKind.i64 yl, Value.int IntKind.i64 xh, Value.int IntKind.i64 yh] ∧
 IntKind.i64.wrap (IntKind.i64.wrap (0 + 1) + 1) = IntKind.i64.wrap (IntKind.i64.wrap (0 + 1) + 1) ∧ yl = yl ∧ yh = yh ∧ xl = xl ∧ xh = xh ∧ Int.ofNat 0 = 0 ∧ Int.ofNat 0 = 0 ∧ xl = xl ∧ yl = yl ∧ xl = xl ∧ yh = yh ∧ xh = xh ∧ yl = yl ∧ xh = xh ∧ yh = yh ∧ s.1 = s_1.1 ∧ s.2 = s_1.2 ∧ xh = s_1.3 ∧ yl = s_1.4 ∧ True) ∧
 FoR fa fb fc fd (IntKind.i64.wrap (IntKind.i64.wrap (0 + 1) + 1)) s_1.1 s_1.2 s_1.3 s_1.4)
 (∃ (s_1 : Fo),
 (Int.ofNat 0 = 0 ∧
 Value.agg #[Value.int IntKind.i64 xl, Value.int IntKind.i64 yl, Value.int IntKind.i64 xl, Value.int IntKind.i64 yh, Value.int IntKind.i64 xh, Value.int IntKind.i64 yl, Value.int IntKind.i64 xh, Value.int IntKind.i64 yh] =
 Value.agg #[Value.int IntKind.i64 xl, Value.int IntKind.i64 yl, Value.int IntKind.i64 xl, Value.int IntKind.i64 yh, Value.int IntKind.i64 xh, Value.int IntKind.i64 yl, Value.int IntKind.i64 xh, Value.int IntKind.i64 yh] ∧
 IntKind.i64.wrap (IntKind.i64.wrap (0 + 1) + 1) = IntKind.i64.wrap (IntKind.i64.wrap (0 + 1) + 1) ∧ yl = yl ∧ yh = yh ∧ xl = xl ∧ xh = xh ∧ Int.ofNat 0 = 0 ∧ Int.ofNat 0 = 0 ∧ xl = xl ∧ yl = yl ∧ xl = xl ∧ yh = yh ∧ xh = xh ∧ yl = yl ∧ xh = xh ∧ yh = yh ∧ s.1 = s_1.1 ∧ s.2 = s_1.2 ∧ s.3 = s_1.3 ∧ s.4 = s_1.4 ∧ True) ∧
 FoR fa fb fc fd (IntKind.i64.wrap (IntKind.i64.wrap (0 + 1) + 1)) s_1.1 s_1.2 s_1.3 s_1.4))) ∧
 BfOk xl yh s.1 s.2 ∧
 bcase (bf xl yh s.a s.b)
 (BfOk s.3 s.4 xl yh ∧
 bcase (bf s.c s.d xl yh)
 (∃ (s : Fo),
 (Int.ofNat 0 = 0 ∧
 Value.agg #[Value.int IntKind.i64 xl, Value.int IntKind.i64 yl, Value.int IntKind.i64 xl, Value.int IntKind.i64 yh, Value.int IntKind.i64 xh, Value.int IntKind.i64 yl, Value.int IntKind.i64 xh, Value.int IntKind.i64 yh] =
 Value.agg #[Value.int IntKind.i64 xl, Value.int IntKind.i64 yl, Value.int IntKind.i64 xl, Value.int IntKind.i64 yh, Value.int IntKind.i64 xh, Value.int IntKind.i64 yl, Value.int IntKind.i64 xh, Value.int IntKind.i64 yh] ∧
 IntKind.i64.wrap (0 + 1) = IntKind.i64.wrap (0 + 1) ∧ yl = yl ∧ yh = yh ∧ xl = xl ∧ xh = xh ∧ Int.ofNat 0 = 0 ∧ Int.ofNat 0 = 0 ∧ xl = xl ∧ yl = yl ∧ xl = xl ∧ yh = yh ∧ xh = xh ∧ yl = yl ∧ xh = xh ∧ yh = yh ∧ xl = s.1 ∧ yh = s.2 ∧ xl = s.3 ∧ yh = s.4 ∧ True) ∧
 FoR fa fb fc fd (IntKind.i64.wrap (0 + 1)) s.1 s.2 s.3 s.4)
 (∃ (s_1 : Fo),
 (Int.ofNat 0 = 0 ∧
 Value.agg #[Value.int IntKind.i64 xl, Value.int IntKind.i64 yl, Value.int IntKind.i64 xl, Value.int IntKind.i64 yh, Value.int IntKind.i64 xh, Value.int IntKind.i64 yl, Value.int IntKind.i64 xh, Value.int IntKind.i64 yh] =
 Value.agg #[Value.int IntKind.i64 xl, Value.int IntKind.i64 yl, Value.int IntKind.i64 xl, Value.int IntKind.i64 yh, Value.int IntKind.i64 xh, Value.int IntKind.i64 yl, Value.int IntKind.i64 xh, Value.int IntKind.i64 yh] ∧
 IntKind.i64.wrap (0 + 1) = IntKind.i64.wrap (0 + 1) ∧ yl = yl ∧ yh = yh ∧ xl = xl ∧ xh = xh ∧ Int.ofNat 0 = 0 ∧ Int.ofNat 0 = 0 ∧ xl = xl ∧ yl = yl ∧ xl = xl ∧ yh = yh ∧ xh = xh ∧ yl = yl ∧ xh = xh ∧ yh = yh ∧ xl = s_1.1 ∧ yh = s_1.2 ∧ s.3 = s_1.3 ∧ s.4 = s_1.4 ∧ True) ∧
 FoR fa fb fc fd (IntKind.i64.wrap (0 + 1)) s_1.1 s_1.2 s_1.3 s_1.4))
 (BfOk s.3 s.4 xl yh ∧
 bcase (bf s.c s.d xl yh)
 (∃ (s_1 : Fo),
 (Int.ofNat 0 = 0 ∧
 Value.agg #[Value.int IntKind.i64 xl, Value.int IntKind.i64 yl, Value.int IntKind.i64 xl, Value.int IntKind.i64 yh, Value.int IntKind.i64 xh, Value.int IntKind.i64 yl, Value.int IntKind.i64 xh, Value.int IntKind.i64 yh] =
 Value.agg #[Value.int IntKind.i64 xl, Value.int IntKind.i64 yl, Value.int IntKind.i64 xl, Value.int IntKind.i64 yh, Value.int IntKind.i64 xh, Value.int IntKind.i64 yl, Value.int IntKind.i64 xh, Value.int IntKind.i64 yh] ∧
 IntKind.i64.wrap (0 + 1) = IntKind.i64.wrap (0 + 1) ∧ yl = yl ∧ yh = yh ∧ xl = xl ∧ xh = xh ∧ Int.ofNat 0 = 0 ∧ Int.ofNat 0 = 0 ∧ xl = xl ∧ yl = yl ∧ xl = xl ∧ yh = yh ∧ xh = xh ∧ yl = yl ∧ xh = xh ∧ yh = yh ∧ s.1 = s_1.1 ∧ s.2 = s_1.2 ∧ xl = s_1.3 ∧ yh = s_1.4 ∧ True) ∧
 FoR fa fb fc fd (IntKind.i64.wrap (0 + 1)) s_1.1 s_1.2 s_1.3 s_1.4)
 (∃ (s_1 : Fo),
 (Int.ofNat 0 = 0 ∧
 Value.agg #[Value.int IntKind.i64 xl, Value.int IntKind.i64 yl, Value.int IntKind.i64 xl, Value.int IntKind.i64 yh, Value.int IntKind.i64 xh, Value.int IntKind.i64 yl, Value.int IntKind.i64 xh, Value.int IntKind.i64 yh] =
 Value.agg #[Value.int IntKind.i64 xl, Value.int IntKind.i64 yl, Value.int IntKind.i64 xl, Value.int IntKind.i64 yh, Value.int IntKind.i64 xh, Value.int IntKind.i64 yl, Value.int IntKind.i64 xh, Value.int IntKind.i64 yh] ∧
 IntKind.i64.wrap (0 + 1) = IntKind.i64.wrap (0 + 1) ∧ yl = yl ∧ yh = yh ∧ xl = xl ∧ xh = xh ∧ Int.ofNat 0 = 0 ∧ Int.ofNat 0 = 0 ∧ xl = xl ∧ yl = yl ∧ xl = xl ∧ yh = yh ∧ xh = xh ∧ yl = yl ∧ xh = xh ∧ yh = yh ∧ s.1 = s_1.1 ∧ s.2 = s_1.2 ∧ s.3 = s_1.3 ∧ s.4 = s_1.4 ∧ True) ∧
 FoR fa fb fc fd (IntKind.i64.wrap (0 + 1)) s_1.1 s_1.2 s_1.3 s_1.4))) ∧
 BfOk xl yl xl yl ∧
 bcase (bf xl yl xl yl)
 (BfOk xl yl xl yl ∧
 bcase (bf xl yl xl yl)
 (∃ (s : Fo),
 (Int.ofNat 0 = 0 ∧
 Value.agg #[Value.int IntKind.i64 xl, Value.int IntKind.i64 yl, Value.int IntKind.i64 xl, Value.int IntKind.i64 yh, Value.int IntKind.i64 xh, Value.int IntKind.i64 yl, Value.int IntKind.i64 xh, Value.int IntKind.i64 yh] =
 Value.agg #[Value.int IntKind.i64 xl, Value.int IntKind.i64 yl, Value.int IntKind.i64 xl, Value.int IntKind.i64 yh, Value.int IntKind.i64 xh, Value.int IntKind.i64 yl, Value.int IntKind.i64 xh, Value.int IntKind.i64 yh] ∧
 Int.ofNat 0 = 0 ∧ yl = yl ∧ yh = yh ∧ xl = xl ∧ xh = xh ∧ Int.ofNat 0 = 0 ∧ Int.ofNat 0 = 0 ∧ xl = xl ∧ yl = yl ∧ xl = xl ∧ yh = yh ∧ xh = xh ∧ yl = yl ∧ xh = xh ∧ yh = yh ∧ xl = s.1 ∧ yl = s.2 ∧ xl = s.3 ∧ yl = s.4 ∧ True) ∧
 FoR fa fb fc fd 0 s.1 s.2 s.3 s.4)
 (∃ (s : Fo),
 (Int.ofNat 0 = 0 ∧
 Value.agg #[Value.int IntKind.i64 xl, Value.int IntKind.i64 yl, Value.int IntKind.i64 xl, Value.int IntKind.i64 yh, Value.int IntKind.i64 xh, Value.int IntKind.i64 yl, Value.int IntKind.i64 xh, Value.int IntKind.i64 yh] =
 Value.agg #[Value.int IntKind.i64 xl, Value.int IntKind.i64 yl, Value.int IntKind.i64 xl, Value.int IntKind.i64 yh, Value.int IntKind.i64 xh, Value.int IntKind.i64 yl, Value.int IntKind.i64 xh, Value.int IntKind.i64 yh] ∧
 Int.ofNat 0 = 0 ∧ yl = yl ∧ yh = yh ∧ xl = xl ∧ xh = xh ∧ Int.ofNat 0 = 0 ∧ Int.ofNat 0 = 0 ∧ xl = xl ∧ yl = yl ∧ xl = xl ∧ yh = yh ∧ xh = xh ∧ yl = yl ∧ xh = xh ∧ yh = yh ∧ xl = s.1 ∧ yl = s.2 ∧ xl = s.3 ∧ yl = s.4 ∧ True) ∧
 FoR fa fb fc fd 0 s.1 s.2 s.3 s.4))
 (BfOk xl yl xl yl ∧
 bcase (bf xl yl xl yl)
 (∃ (s : Fo),
 (Int.ofNat 0 = 0 ∧
 Value.agg #[Value.int IntKind.i64 xl, Value.int IntKind.i64 yl, Value.int IntKind.i64 xl, Value.int IntKind.i64 yh, Value.int IntKind.i64 xh, Value.int IntKind.i64 yl, Value.int IntKind.i64 xh, Value.int IntKind.i64 yh] =
 Value.agg #[Value.int IntKind.i64 xl, Value.int IntKind.i64 yl, Value.int IntKind.i64 xl, Value.int IntKind.i64 yh, Value.int IntKind.i64 xh, Value.int IntKind.i64 yl, Value.int IntKind.i64 xh, Value.int IntKind.i64 yh] ∧
 Int.ofNat 0 = 0 ∧ yl = yl ∧ yh = yh ∧ xl = xl ∧ xh = xh ∧ Int.ofNat 0 = 0 ∧ Int.ofNat 0 = 0 ∧ xl = xl ∧ yl = yl ∧ xl = xl ∧ yh = yh ∧ xh = xh ∧ yl = yl ∧ xh = xh ∧ yh = yh ∧ xl = s.1 ∧ yl = s.2 ∧ xl = s.3 ∧ yl = s.4 ∧ True) ∧
 FoR fa fb fc fd 0 s.1 s.2 s.3 s.4)
 (∃ (s : Fo),
 (Int.ofNat 0 = 0 ∧
 Value.agg #[Value.int IntKind.i64 xl, Value.int IntKind.i64 yl, Value.int IntKind.i64 xl, Value.int IntKind.i64 yh, Value.int IntKind.i64 xh, Value.int IntKind.i64 yl, Value.int IntKind.i64 xh, Value.int IntKind.i64 yh] =
 Value.agg #[Value.int IntKind.i64 xl, Value.int IntKind.i64 yl, Value.int IntKind.i64 xl, Value.int IntKind.i64 yh, Value.int IntKind.i64 xh, Value.int IntKind.i64 yl, Value.int IntKind.i64 xh, Value.int IntKind.i64 yh] ∧
 Int.ofNat 0 = 0 ∧ yl = yl ∧ yh = yh ∧ xl = xl ∧ xh = xh ∧ Int.ofNat 0 = 0 ∧ Int.ofNat 0 = 0 ∧ xl = xl ∧ yl = yl ∧ xl = xl ∧ yh = yh ∧ xh = xh ∧ yl = yl ∧ xh = xh ∧ yh = yh ∧ xl = s.1 ∧ yl = s.2 ∧ xl = s.3 ∧ yl = s.4 ∧ True) ∧
 FoR fa fb fc fd 0 s.1 s.2 s.3 s.4))))
 ((∀ (s : Fo),
 FoR fa fb fc fd 0 s.1 s.2 s.3 s.4 →
 (∀ (s : Fo),
 FoR fa fb fc fd (IntKind.i64.wrap (0 + 1)) s.1 s.2 s.3 s.4 →
 (∀ (s : Fo),
 FoR fa fb fc fd (IntKind.i64.wrap (IntKind.i64.wrap (0 + 1) + 1)) s.1 s.2 s.3 s.4 →
 (∀ (s : Fo),
 FoR fa fb fc fd (IntKind.i64.wrap (IntKind.i64.wrap (IntKind.i64.wrap (0 + 1) + 1) + 1)) s.1 s.2 s.3 s.4 →
 PlOk s.1 s.2 ∧
 PlOk s.3 s.4 ∧
 bcase (decide (ap s.c s.d < ap s.a s.b))
 (bcase (!ex s.c s.d) (K (Value.tuple #[Value.agg #[Value.int IntKind.i64 (ap s.a s.b), Value.int IntKind.i64 (IntKind.i64.wrap (IntKind.i64.wrap (ap s.c s.d + 21600000) + 1))], Value.int IntKind.i64 0])) (K (Value.tuple #[Value.agg #[Value.int IntKind.i64 (ap s.a s.b), Value.int IntKind.i64 (IntKind.i64.wrap (ap s.c s.d + 21600000))], Value.int IntKind.i64 0])))
 (bcase (!ex s.c s.d) (K (Value.tuple #[Value.agg #[Value.int IntKind.i64 (ap s.a s.b), Value.int IntKind.i64 (IntKind.i64.wrap (ap s.c s.d + 1))], Value.int IntKind.i64 0])) (K (Value.tuple #[Value.agg #[Value.int IntKind.i64 (ap s.a s.b), Value.int IntKind.i64 (ap s.c s.d)], Value.int IntKind.i64 0])))) ∧
 BfOk xh yh s.1 s.2 ∧
 bcase (bf xh yh s.a s.b)
 (BfOk s.3 s.4 xh yh ∧
 bcase (bf s.c s.d xh yh)
 (∃ (s : Fo),
 (Int.ofNat 0 = 0 ∧
 Value.agg #[Value.int IntKind.i64 xl, Value.int IntKind.i64 yl, Value.int IntKind.i64 xl, Value.int IntKind.i64 yh, Value.int IntKind.i64 xh, Value.int IntKind.i64 yl, Value.int IntKind.i64 xh, Value.int IntKind.i64 yh] =
 Value.agg #[Value.int IntKind.i64 xl, Value.int IntKind.i64 yl, Value.int IntKind.i64 xl, Value.int IntKind.i64 yh, Value.int IntKind.i64 xh, Value.int IntKind.i64 yl, Value.int IntKind.i64 xh, Value.int IntKind.i64 yh] ∧
 IntKind.i64.wrap (IntKind.i64.wrap (IntKind.i64.wrap (0 + 1) + 1) + 1) = IntKind.i64.wrap (IntKind.i64.wrap (IntKind.i64.wrap (0 + 1) + 1) + 1) ∧ yl = yl ∧ yh = yh ∧ xl = xl ∧ xh = xh ∧ Int.ofNat 0 = 0 ∧ Int.ofNat 0 = 0 ∧ xl = xl ∧ yl = yl ∧ xl = xl ∧ yh = yh ∧ xh = xh ∧ yl = yl ∧ xh = xh ∧ yh = yh ∧ xh = s.1 ∧ yh = s.2 ∧ xh = s.3 ∧ yh = s.4 ∧ True) ∧
 FoR fa fb fc fd (IntKind.i64.wrap (IntKind.i64.wrap (IntKind.i64.wrap (0 + 1) + 1) + 1)) s.1 s.2 s.3 s.4)
 (∃ (s_1 : Fo),
 (Int.ofNat 0 = 0 ∧
 Value.agg #[Value.int IntKind.i64 xl, Value.int IntKind.i64 yl, Value.int IntKind.i64 xl, Value.int IntKind.i64 yh, Value.int IntKind.i64 xh, Value.int IntKind.i64 yl, Value.int IntKind.i64 xh, Value.int IntKind.i64 yh] =
 Value.agg #[Value.int IntKind.i64 xl, Value.int IntKind.i64 yl, Value.int IntKind.i64 xl, Value.int IntKind.i64 yh, Value.int IntKind.i64 xh, Value.int IntKind.i64 yl, Value.int IntKind.i64 xh, Value.int IntKind.i64 yh] ∧
 IntKind.i64.wrap (IntKind.i64.wrap (IntKind.i64.wrap (0 + 1) + 1) + 1) = IntKind.i64.wrap (IntKind.i64.wrap (IntKind.i64.wrap (0 + 1) + 1) + 1) ∧ yl = yl ∧ yh = yh ∧ xl = xl ∧ xh = xh ∧ Int.ofNat 0 = 0 ∧ Int.ofNat 0 = 0 ∧ xl = xl ∧ yl = yl ∧ xl = xl ∧ yh = yh ∧ xh = xh ∧ yl = yl ∧ xh = xh ∧ yh = yh ∧ xh = s_1.1 ∧ yh = s_1.2 ∧ s.3 = s_1.3 ∧ s.4 = s_1.4 ∧ True) ∧
 FoR fa fb fc fd (IntKind.i64.wrap (IntKind.i64.wrap (IntKind.i64.wrap (0 + 1) + 1) + 1)) s_1.1 s_1.2 s_1.3 s_1.4))
 (BfOk s.3 s.4 xh yh ∧
 bcase (bf s.c s.d xh yh)
 (∃ (s_1 : Fo),
 (Int.ofNat 0 = 0 ∧
 Value.agg #[Value.int IntKind.i64 xl, Value.int IntKind.i64 yl, Value.int IntKind.i64 xl, Value.int IntKind.i64 yh, Value.int IntKind.i64 xh, Value.int IntKind.i64 yl, Value.int IntKind.i64 xh, Value.int IntKind.i64 yh] =
 Value.agg #[Value.int IntKind.i64 xl, Value.int IntKind.i64 yl, Value.int IntKind.i64 xl, Value.int IntKind.i64 yh, Value.int IntKind.i64 xh, Value.int IntKind.i64 yl, Value.int IntKind.i64 xh, Value.int IntKind.i64 yh] ∧
 IntKind.i64.wrap (IntKind.i64.wrap (IntKind.i64.wrap (0 + 1) + 1) + 1) = IntKind.i64.wrap (IntKind.i64.wrap (IntKind.i64.wrap (0 + 1) + 1) + 1) ∧ yl = yl ∧ yh = yh ∧ xl = xl ∧ xh = xh ∧ Int.ofNat 0 = 0 ∧ Int.ofNat 0 = 0 ∧ xl = xl ∧ yl = yl ∧ xl = xl ∧ yh = yh ∧ xh = xh ∧ yl = yl ∧ xh = xh ∧ yh = yh ∧ s.1 = s_1.1 ∧ s.2 = s_1.2 ∧ xh = s_1.3 ∧ yh = s_1.4 ∧ True) ∧
 FoR fa fb fc fd (IntKind.i64.wrap (IntKind.i64.wrap (IntKind.i64.wrap (0 + 1) + 1) + 1)) s_1.1 s_1.2 s_1.3 s_1.4)
 (∃ (s_1 : Fo),
 (Int.ofNat 0 = 0 ∧
 Value.agg #[Value.int IntKind.i64 xl, Value.int IntKind.i64 yl, Value.int IntKind.i64 xl, Value.int IntKind.i64 yh, Value.int IntKind.i64 xh, Value.int IntKind.i64 yl, Value.int IntKind.i64 xh, Value.int IntKind.i64 yh] =
 Value.agg #[Value.int IntKind.i64 xl, Value.int IntKind.i64 yl, Value.int IntKind.i64 xl, Value.int IntKind.i64 yh, Value.int IntKind.i64 xh, Value.int IntKind.i64 yl, Value.int IntKind.i64 xh, Value.int IntKind.i64 yh] ∧
 IntKind.i64.wrap (IntKind.i64.wrap (IntKind.i64.wrap (0 + 1) + 1) + 1) = IntKind.i64.wrap (IntKind.i64.wrap (IntKind.i64.wrap (0 + 1) + 1) + 1) ∧ yl = yl ∧ yh = yh ∧ xl = xl ∧ xh = xh ∧ Int.ofNat 0 = 0 ∧ Int.ofNat 0 = 0 ∧ xl = xl ∧ yl = yl ∧ xl = xl ∧ yh = yh ∧ xh = xh ∧ yl = yl ∧ xh = xh ∧ yh = yh ∧ s.1 = s_1.1 ∧ s.2 = s_1.2 ∧ s.3 = s_1.3 ∧ s.4 = s_1.4 ∧ True) ∧
 FoR fa fb fc fd (IntKind.i64.wrap (IntKind.i64.wrap (IntKind.i64.wrap (0 + 1) + 1) + 1)) s_1.1 s_1.2 s_1.3 s_1.4))) ∧
 BfOk xh yl s.1 s.2 ∧
 bcase (bf xh yl s.a s.b)
 (BfOk s.3 s.4 xh yl ∧
 bcase (bf s.c s.d xh yl)
 (∃ (s : Fo),
 (Int.ofNat 0 = 0 ∧
 Value.agg #[Value.int IntKind.i64 xl, Value.int IntKind.i64 yl, Value.int IntKind.i64 xl, Value.int IntKind.i64 yh, Value.int IntKind.i64 xh, Value.int IntKind.i64 yl, Value.int IntKind.i64 xh, Value.int IntKind.i64 yh] =
 Value.agg #[Value.int IntKind.i64 xl, Value.int IntKind.i64 yl, Value.int IntKind.i64 xl, Value.int IntKind.i64 yh, Value.int IntKind.i64 xh, Value.int IntKind.i64 yl, Value.int IntKind.i64 xh, Value.int IntKind.i64 yh] ∧
 IntKind.i64.wrap (IntKind.i64.wrap (0 + 1) + 1) = IntKind.i64.wrap (IntKind.i64.wrap (0 + 1) + 1) ∧ yl = yl ∧ yh = yh ∧ xl = xl ∧ xh = xh ∧ Int.ofNat 0 = 0 ∧ Int.ofNat 0 = 0 ∧ xl = xl ∧ yl = yl ∧ xl = xl ∧ yh = yh ∧ xh = xh ∧ yl = yl ∧ xh = xh ∧ yh = yh ∧ xh = s.1 ∧ yl = s.2 ∧ xh = s.3 ∧ yl = s.4 ∧ True) ∧
 FoR fa fb fc fd (IntKind.i64.wrap (IntKind.i64.wrap (0 + 1) + 1)) s.1 s.2 s.3 s.4)
 (∃ (s_1 : Fo),
 (Int.ofNat 0 = 0 ∧
 Value.agg #[Value.int IntKind.i64 xl, Value.int IntKind.i64 yl, Value.int IntKind.i64 xl, Value.int IntKind.i64 yh, Value.int IntKind.i64 xh, Value.int IntKind.i64 yl, Value.int IntKind.i64 xh, Value.int IntKind.i64 yh] =
 Value.agg #[Value.int IntKind.i64 xl, Value.int IntKind.i64 yl, Value.int IntKind.i64 xl, Value.int IntKind.i64 yh, Value.int IntKind.i64 xh, Value.int IntKind.i64 yl, Value.int IntKind.i64 xh, Value.int IntKind.i64 yh] ∧
 IntKind.i64.wrap (IntKind.i64.wrap (0 + 1) + 1) = IntKind.i64.wrap (IntKind.i64.wrap (0 + 1) + 1) ∧ yl = yl ∧ yh = yh ∧ xl = xl ∧ xh = xh ∧ Int.ofNat 0 = 0 ∧ Int.ofNat 0 = 0 ∧ xl = xl ∧ yl = yl ∧ xl = xl ∧ yh = yh ∧ xh = xh ∧ yl = yl ∧ xh = xh ∧ yh = yh ∧ xh = s_1.1 ∧ yl = s_1.2 ∧ s.3 = s_1.3 ∧ s.4 = s_1.4 ∧ True) ∧
 FoR fa fb fc fd (IntKind.i64.wrap (IntKind.i64.wrap (0 + 1) + 1)) s_1.1 s_1.2 s_1.3 s_1.4))
 (BfOk s.3 s.4 xh yl ∧
 bcase (bf s.c s.d xh yl)
 (∃ (s_1 : Fo),
 (Int.ofNat 0 = 0 ∧
 Value.agg #[Value.int IntKind.i64 xl, Value.int IntKind.i64 yl, Value.int IntKind.i64 xl, Value.int IntKind.i64 yh, Value.int IntKind.i64 xh, Value.int IntKind.i64 yl, Value.int IntKind.i64 xh, Value.int IntKind.i64 yh] =
 Value.agg #[Value.int IntKind.i64 xl, Value.int IntKind.i64 yl, Value.int IntKind.i64 xl, Value.int IntKind.i64 yh, Value.int IntKind.i64 xh, Value.int IntKind.i64 yl, Value.int IntKind.i64 xh, Value.int IntKind.i64 yh] ∧
 IntKind.i64.wrap (IntKind.i64.wrap (0 + 1) + 1) = IntKind.i64.wrap (IntKind.i64.wrap (0 + 1) + 1) ∧ yl = yl ∧ yh = yh ∧ xl = xl ∧ xh = xh ∧ Int.ofNat 0 = 0 ∧ Int.ofNat 0 = 0 ∧ xl = xl ∧ yl = yl ∧ xl = xl ∧ yh = yh ∧ xh = xh ∧ yl = yl ∧ xh = xh ∧ yh = yh ∧ s.1 = s_1.1 ∧ s.2 = s_1.2 ∧ xh = s_1.3 ∧ yl = s_1.4 ∧ True) ∧
 FoR fa fb fc fd (IntKind.i64.wrap (IntKind.i64.wrap (0 + 1) + 1)) s_1.1 s_1.2 s_1.3 s_1.4)
 (∃ (s_1 : Fo),
 (Int.ofNat 0 = 0 ∧
 Value.agg #[Value.int IntKind.i64 xl, Value.int IntKind.i64 yl, Value.int IntKind.i64 xl, Value.int IntKind.i64 yh, Value.int IntKind.i64 xh, Value.int IntKind.i64 yl, Value.int IntKind.i64 xh, Value.int IntKind.i64 yh] =
 Value.agg #[Value.int IntKind.i64 xl, Value.int IntKind.i64 yl, Value.int IntKind.i64 xl, Value.int IntKind.i64 yh, Value.int IntKind.i64 xh, Value.int IntKind.i64 yl, Value.int IntKind.i64 xh, Value.int IntKind.i64 yh] ∧
 IntKind.i64.wrap (IntKind.i64.wrap (0 + 1) + 1) = IntKind.i64.wrap (IntKind.i64.wrap (0 + 1) + 1) ∧ yl = yl ∧ yh = yh ∧ xl = xl ∧ xh = xh ∧ Int.ofNat 0 = 0 ∧ Int.ofNat 0 = 0 ∧ xl = xl ∧ yl = yl ∧ xl = xl ∧ yh = yh ∧ xh = xh ∧ yl = yl ∧ xh = xh ∧ yh = yh ∧ s.1 = s_1.1 ∧ s.2 = s_1.2 ∧ s.3 = s_1.3 ∧ s.4 = s_1.4 ∧ True) ∧
 FoR fa fb fc fd (IntKind.i64.wrap (IntKind.i64.wrap (0 + 1) + 1)) s_1.1 s_1.2 s_1.3 s_1.4))) ∧
 BfOk xl yh s.1 s.2 ∧
 bcase (bf xl yh s.a s.b)
 (BfOk s.3 s.4 xl yh ∧
 bcase (bf s.c s.d xl yh)
 (∃ (s : Fo),
 (Int.ofNat 0 = 0 ∧
 Value.agg #[Value.int IntKind.i64 xl, Value.int IntKind.i64 yl, Value.int IntKind.i64 xl, Value.int IntKind.i64 yh, Value.int IntKind.i64 xh, Value.int IntKind.i64 yl, Value.int IntKind.i64 xh, Value.int IntKind.i64 yh] =
 Value.agg #[Value.int IntKind.i64 xl, Value.int IntKind.i64 yl, Value.int IntKind.i64 xl, Value.int IntKind.i64 yh, Value.int IntKind.i64 xh, Value.int IntKind.i64 yl, Value.int IntKind.i64 xh, Value.int IntKind.i64 yh] ∧
 IntKind.i64.wrap (0 + 1) = IntKind.i64.wrap (0 + 1) ∧ yl = yl ∧ yh = yh ∧ xl = xl ∧ xh = xh ∧ Int.ofNat 0 = 0 ∧ Int.ofNat 0 = 0 ∧ xl = xl ∧ yl = yl ∧ xl = xl ∧ yh = yh ∧ xh = xh ∧ yl = yl ∧ xh = xh ∧ yh = yh ∧ xl = s.1 ∧ yh = s.2 ∧ xl = s.3 ∧ yh = s.4 ∧ True) ∧
 FoR fa fb fc fd (IntKind.i64.wrap (0 + 1)) s.1 s.2 s.3 s.4)
 (∃ (s_1 : Fo),
 (Int.ofNat 0 = 0 ∧
 Value.agg #[Value.int IntKind.i64 xl, Value.int IntKind.i64 yl, Value.int IntKind.i64 xl, Value.int IntKind.i64 yh, Value.int IntKind.i64 xh, Value.int IntKind.i64 yl, Value.int IntKind.i64 xh, Value.int IntKind.i64 yh] =
 Value.agg #[Value.int IntKind.i64 xl, Value.int IntKind.i64 yl, Value.int IntKind.i64 xl, Value.int IntKind.i64 yh, Value.int IntKind.i64 xh, Value.int IntKind.i64 yl, Value.int IntKind.i64 xh, Value.int IntKind.i64 yh] ∧
 IntKind.i64.wrap (0 + 1) = IntKind.i64.wrap (0 + 1) ∧ yl = yl ∧ yh = yh ∧ xl = xl ∧ xh = xh ∧ Int.ofNat 0 = 0 ∧ Int.ofNat 0 = 0 ∧ xl = xl ∧ yl = yl ∧ xl = xl ∧ yh = yh ∧ xh = xh ∧ yl = yl ∧ xh = xh ∧ yh = yh ∧ xl = s_1.1 ∧ yh = s_1.2 ∧ s.3 = s_1.3 ∧ s.4 = s_1.4 ∧ True) ∧
 FoR fa fb fc fd (IntKind.i64.wrap (0 + 1)) s_1.1 s_1.2 s_1.3 s_1.4))
 (BfOk s.3 s.4 xl yh ∧
 bcase (bf s.c s.d xl yh)
 (∃ (s_1 : Fo),
 (Int.ofNat 0 = 0 ∧
 Value.agg #[Value.int IntKind.i64 xl, Value.int IntKind.i64 yl, Value.int IntKind.i64 xl, Value.int IntKind.i64 yh, Value.int IntKind.i64 xh, Value.int IntKind.i64 yl, Value.int IntKind.i64 xh, Value.int IntKind.i64 yh] =
 Value.agg #[Value.int IntKind.i64 xl, Value.int IntKind.i64 yl, Value.int IntKind.i64 xl, Value.int IntKind.i64 yh, Value.int IntKind.i64 xh, Value.int IntKind.i64 yl, Value.int IntKind.i64 xh, Value.int IntKind.i64 yh] ∧
 IntKind.i64.wrap (0 + 1) = IntKind.i64.wrap (0 + 1) ∧ yl = yl ∧ yh = yh ∧ xl = xl ∧ xh = xh ∧ Int.ofNat 0 = 0 ∧ Int.ofNat 0 = 0 ∧ xl = xl ∧ yl = yl ∧ xl = xl ∧ yh = yh ∧ xh = xh ∧ yl = yl ∧ xh = xh ∧ yh = yh ∧ s.1 = s_1.1 ∧ s.2 = s_1.2 ∧ xl = s_1.3 ∧ yh = s_1.4 ∧ True) ∧
 FoR fa fb fc fd (IntKind.i64.wrap (0 + 1)) s_1.1 s_1.2 s_1.3 s_1.4)
 (∃ (s_1 : Fo),
 (Int.ofNat 0 = 0 ∧
 Value.agg #[Value.int IntKind.i64 xl, Value.int IntKind.i64 yl, Value.int IntKind.i64 xl, Value.int IntKind.i64 yh, Value.int IntKind.i64 xh, Value.int IntKind.i64 yl, Value.int IntKind.i64 xh, Value.int IntKind.i64 yh] =
 Value.agg #[Value.int IntKind.i64 xl, Value.int IntKind.i64 yl, Value.int IntKind.i64 xl, Value.int IntKind.i64 yh, Value.int IntKind.i64 xh, Value.int IntKind.i64 yl, Value.int IntKind.i64 xh, Value.int IntKind.i64 yh] ∧
 IntKind.i64.wrap (0 + 1) = IntKind.i64.wrap (0 + 1) ∧ yl = yl ∧ yh = yh ∧ xl = xl ∧ xh = xh ∧ Int.ofNat 0 = 0 ∧ Int.ofNat 0 = 0 ∧ xl = xl ∧ yl = yl ∧ xl = xl ∧ yh = yh ∧ xh = xh ∧ yl = yl ∧ xh = xh ∧ yh = yh ∧ s.1 = s_1.1 ∧ s.2 = s_1.2 ∧ s.3 = s_1.3 ∧ s.4 = s_1.4 ∧ True) ∧
 FoR fa fb fc fd (IntKind.i64.wrap (0 + 1)) s_1.1 s_1.2 s_1.3 s_1.4))) ∧
 BfOk xl yl xl yl ∧
 bcase (bf xl yl xl yl)
 (BfOk xl yl xl yl ∧
 bcase (bf xl yl xl yl)
 (∃ (s : Fo),
 (Int.ofNat 0 = 0 ∧
 Value.agg #[Value.int IntKind.i64 xl, Value.int IntKind.i64 yl, Value.int IntKind.i64 xl, Value.int IntKind.i64 yh, Value.int IntKind.i64 xh, Value.int IntKind.i64 yl, Value.int IntKind.i64 xh, Value.int IntKind.i64 yh] =
 Value.agg #[Value.int IntKind.i64 xl, Value.int IntKind.i64 yl, Value.int IntKind.i64 xl, Value.int IntKind.i64 yh, Value.int IntKind.i64 xh, Value.int IntKind.i64 yl, Value.int IntKind.i64 xh, Value.int IntKind.i64 yh] ∧
 Int.ofNat 0 = 0 ∧ yl = yl ∧ yh = yh ∧ xl = xl ∧ xh = xh ∧ Int.ofNat 0 = 0 ∧ Int.ofNat 0 = 0 ∧ xl = xl ∧ yl = yl ∧ xl = xl ∧ yh = yh ∧ xh = xh ∧ yl = yl ∧ xh = xh ∧ yh = yh ∧ xl = s.1 ∧ yl = s.2 ∧ xl = s.3 ∧ yl = s.4 ∧ True) ∧
 FoR fa fb fc fd 0 s.1 s.2 s.3 s.4)
 (∃ (s : Fo),
 (Int.ofNat 0 = 0 ∧
 Value.agg #[Value.int IntKind.i64 xl, Value.int IntKind.i64 yl, Value.int IntKind.i64 xl, Value.int IntKind.i64 yh, Value.int IntKind.i64 xh, Value.int IntKind.i64 yl, Value.int IntKind.i64 xh, Value.int IntKind.i64 yh] =
 Value.agg #[Value.int IntKind.i64 xl, Value.int IntKind.i64 yl, Value.int IntKind.i64 xl, Value.int IntKind.i64 yh, Value.int IntKind.i64 xh, Value.int IntKind.i64 yl, Value.int IntKind.i64 xh, Value.int IntKind.i64 yh] ∧
 Int.ofNat 0 = 0 ∧ yl = yl ∧ yh = yh ∧ xl = xl ∧ xh = xh ∧ Int.ofNat 0 = 0 ∧ Int.ofNat 0 = 0 ∧ xl = xl ∧ yl = yl ∧ xl = xl ∧ yh = yh ∧ xh = xh ∧ yl = yl ∧ xh = xh ∧ yh = yh ∧ xl = s.1 ∧ yl = s.2 ∧ xl = s.3 ∧ yl = s.4 ∧ True) ∧
 FoR fa fb fc fd 0 s.1 s.2 s.3 s.4))
 (BfOk xl yl xl yl ∧
 bcase (bf xl yl xl yl)
 (∃ (s : Fo),
 (Int.ofNat 0 = 0 ∧
 Value.agg #[Value.int IntKind.i64 xl, Value.int IntKind.i64 yl, Value.int IntKind.i64 xl, Value.int IntKind.i64 yh, Value.int IntKind.i64 xh, Value.int IntKind.i64 yl, Value.int IntKind.i64 xh, Value.int IntKind.i64 yh] =
 Value.agg #[Value.int IntKind.i64 xl, Value.int IntKind.i64 yl, Value.int IntKind.i64 xl, Value.int IntKind.i64 yh, Value.int IntKind.i64 xh, Value.int IntKind.i64 yl, Value.int IntKind.i64 xh, Value.int IntKind.i64 yh] ∧
 Int.ofNat 0 = 0 ∧ yl = yl ∧ yh = yh ∧ xl = xl ∧ xh = xh ∧ Int.ofNat 0 = 0 ∧ Int.ofNat 0 = 0 ∧ xl = xl ∧ yl = yl ∧ xl = xl ∧ yh = yh ∧ xh = xh ∧ yl = yl ∧ xh = xh ∧ yh = yh ∧ xl = s.1 ∧ yl = s.2 ∧ xl = s.3 ∧ yl = s.4 ∧ True) ∧
 FoR fa fb fc fd 0 s.1 s.2 s.3 s.4)
 (∃ (s : Fo),
 (Int.ofNat 0 = 0 ∧
 Value.agg #[Value.int IntKind.i64 xl, Value.int IntKind.i64 yl, Value.int IntKind.i64 xl, Value.int IntKind.i64 yh, Value.int IntKind.i64 xh, Value.int IntKind.i64 yl, Value.int IntKind.i64 xh, Value.int IntKind.i64 yh] =
 Value.agg #[Value.int IntKind.i64 xl, Value.int IntKind.i64 yl, Value.int IntKind.i64 xl, Value.int IntKind.i64 yh, Value.int IntKind.i64 xh, Value.int IntKind.i64 yl, Value.int IntKind.i64 xh, Value.int IntKind.i64 yh] ∧
 Int.ofNat 0 = 0 ∧ yl = yl ∧ yh = yh ∧ xl = xl ∧ xh = xh ∧ Int.ofNat 0 = 0 ∧ Int.ofNat 0 = 0 ∧ xl = xl ∧ yl = yl ∧ xl = xl ∧ yh = yh ∧ xh = xh ∧ yl = yl ∧ xh = xh ∧ yh = yh ∧ xl = s.1 ∧ yl = s.2 ∧ xl = s.3 ∧ yl = s.4 ∧ True) ∧
 FoR fa fb fc fd 0 s.1 s.2 s.3 s.4))))
 ((∀ (s : Fo),
 FoR fa fb fc fd 0 s.1 s.2 s.3 s.4 →
 (∀ (s : Fo),
 FoR fa fb fc fd (IntKind.i64.wrap (0 + 1)) s.1 s.2 s.3 s.4 →
 (∀ (s : Fo),
 FoR fa fb fc fd (IntKind.i64.wrap (IntKind.i64.wrap (0 + 1) + 1)) s.1 s.2 s.3 s.4 →
 (∀ (s : Fo),
 FoR fa fb fc fd (IntKind.i64.wrap (IntKind.i64.wrap (IntKind.i64.wrap (0 + 1) + 1) + 1)) s.1 s.2 s.3 s.4 →
 PlOk s.1 s.2 ∧
 PlOk s.3 s.4 ∧
 bcase (decide (ap s.c s.d < ap s.a s.b))
 (bcase (!ex s.c s.d) (K (Value.tuple #[Value.agg #[Value.int IntKind.i64 (ap s.a s.b), Value.int IntKind.i64 (IntKind.i64.wrap (IntKind.i64.wrap (ap s.c s.d + 21600000) + 1))], Value.int IntKind.i64 0])) (K (Value.tuple #[Value.agg #[Value.int IntKind.i64 (ap s.a s.b), Value.int IntKind.i64 (IntKind.i64.wrap (ap s.c s.d + 21600000))], Value.int IntKind.i64 0])))
 (bcase (!ex s.c s.d) (K (Value.tuple #[Value.agg #[Value.int IntKind.i64 (ap s.a s.b), Value.int IntKind.i64 (IntKind.i64.wrap (ap s.c s.d + 1))], Value.int IntKind.i64 0])) (K (Value.tuple #[Value.agg #[Value.int IntKind.i64 (ap s.a s.b), Value.int IntKind.i64 (ap s.c s.d)], Value.int IntKind.i64 0])))) ∧
 BfOk xh yh s.1 s.2 ∧
 bcase (bf xh yh s.a s.b)
 (BfOk s.3 s.4 xh yh ∧
 bcase (bf s.c s.d xh yh)
 (∃ (s : Fo),
 (Int.ofNat 0 = 0 ∧
 Value.agg #[Value.int IntKind.i64 xl, Value.int IntKind.i64 yl, Value.int IntKind.i64 xl, Value.int IntKind.i64 yh, Value.int IntKind.i64 xh, Value.int IntKind.i64 yl, Value.int IntKind.i64 xh, Value.int IntKind.i64 yh] =
 Value.agg #[Value.int IntKind.i64 xl, Value.int IntKind.i64 yl, Value.int IntKind.i64 xl, Value.int IntKind.i64 yh, Value.int IntKind.i64 xh, Value.int IntKind.i64 yl, Value.int IntKind.i64 xh, Value.int IntKind.i64 yh] ∧
 IntKind.i64.wrap (IntKind.i64.wrap (IntKind.i64.wrap (0 + 1) + 1) + 1) = IntKind.i64.wrap (IntKind.i64.wrap (IntKind.i64.wrap (0 + 1) + 1) + 1) ∧ yl = yl ∧ yh = yh ∧ xl = xl ∧ xh = xh ∧ Int.ofNat 0 = 0 ∧ Int.ofNat 0 = 0 ∧ xl = xl ∧ yl = yl ∧ xl = xl ∧ yh = yh ∧ xh = xh ∧ yl = yl ∧ xh = xh ∧ yh = yh ∧ xh = s.1 ∧ yh = s.2 ∧ xh = s.3 ∧ yh = s.4 ∧ True) ∧
 FoR fa fb fc fd (IntKind.i64.wrap (IntKind.i64.wrap (IntKind.i64.wrap (0 + 1) + 1) + 1)) s.1 s.2 s.3 s.4)
 (∃ (s_1 : Fo),
 (Int.ofNat 0 = 0 ∧
 Value.agg #[Value.int IntKind.i64 xl, Value.int IntKind.i64 yl, Value.int IntKind.i64 xl, Value.int IntKind.i64 yh, Value.int IntKind.i64 xh, Value.int IntKind.i64 yl, Value.int IntKind.i64 xh, Value.int IntKind.i64 yh] =
 Value.agg #[Value.int IntKind.i64 xl, Value.int IntKind.i64 yl, Value.int IntKind.i64 xl, Value.int IntKind.i64 yh, Value.int IntKind.i64 xh, Value.int IntKind.i64 yl, Value.int IntKind.i64 xh, Value.int IntKind.i64 yh] ∧
 IntKind.i64.wrap (IntKind.i64.wrap (IntKind.i64.wrap (0 + 1) + 1) + 1) = IntKind.i64.wrap (IntKind.i64.wrap (IntKind.i64.wrap (0 + 1) + 1) + 1) ∧ yl = yl ∧ yh = yh ∧ xl = xl ∧ xh = xh ∧ Int.ofNat 0 = 0 ∧ Int.ofNat 0 = 0 ∧ xl = xl ∧ yl = yl ∧ xl = xl ∧ yh = yh ∧ xh = xh ∧ yl = yl ∧ xh = xh ∧ yh = yh ∧ xh = s_1.1 ∧ yh = s_1.2 ∧ s.3 = s_1.3 ∧ s.4 = s_1.4 ∧ True) ∧
 FoR fa fb fc fd (IntKind.i64.wrap (IntKind.i64.wrap (IntKind.i64.wrap (0 + 1) + 1) + 1)) s_1.1 s_1.2 s_1.3 s_1.4))
 (BfOk s.3 s.4 xh yh ∧
 bcase (bf s.c s.d xh yh)
 (∃ (s_1 : Fo),
 (Int.ofNat 0 = 0 ∧
 Value.agg #[Value.int IntKind.i64 xl, Value.int IntKind.i64 yl, Value.int IntKind.i64 xl, Value.int IntKind.i64 yh, Value.int IntKind.i64 xh, Value.int IntKind.i64 yl, Value.int IntKind.i64 xh, Value.int IntKind.i64 yh] =
 Value.agg #[Value.int IntKind.i64 xl, Value.int IntKind.i64 yl, Value.int IntKind.i64 xl, Value.int IntKind.i64 yh, Value.int IntKind.i64 xh, Value.int IntKind.i64 yl, Value.int IntKind.i64 xh, Value.int IntKind.i64 yh] ∧
 IntKind.i64.wrap (IntKind.i64.wrap (IntKind.i64.wrap (0 + 1) + 1) + 1) = IntKind.i64.wrap (IntKind.i64.wrap (IntKind.i64.wrap (0 + 1) + 1) + 1) ∧ yl = yl ∧ yh = yh ∧ xl = xl ∧ xh = xh ∧ Int.ofNat 0 = 0 ∧ Int.ofNat 0 = 0 ∧ xl = xl ∧ yl = yl ∧ xl = xl ∧ yh = yh ∧ xh = xh ∧ yl = yl ∧ xh = xh ∧ yh = yh ∧ s.1 = s_1.1 ∧ s.2 = s_1.2 ∧ xh = s_1.3 ∧ yh = s_1.4 ∧ True) ∧
 FoR fa fb fc fd (IntKind.i64.wrap (IntKind.i64.wrap (IntKind.i64.wrap (0 + 1) + 1) + 1)) s_1.1 s_1.2 s_1.3 s_1.4)
 (∃ (s_1 : Fo),
 (Int.ofNat 0 = 0 ∧
 Value.agg #[Value.int IntKind.i64 xl, Value.int IntKind.i64 yl, Value.int IntKind.i64 xl, Value.int IntKind.i64 yh, Value.int IntKind.i64 xh, Value.int IntKind.i64 yl, Value.int IntKind.i64 xh, Value.int IntKind.i64 yh] =
 Value.agg #[Value.int IntKind.i64 xl, Value.int IntKind.i64 yl, Value.int IntKind.i64 xl, Value.int IntKind.i64 yh, Value.int IntKind.i64 xh, Value.int IntKind.i64 yl, Value.int IntKind.i64 xh, Value.int IntKind.i64 yh] ∧
 IntKind.i64.wrap (IntKind.i64.wrap (IntKind.i64.wrap (0 + 1) + 1) + 1) = IntKind.i64.wrap (IntKind.i64.wrap (IntKind.i64.wrap (0 + 1) + 1) + 1) ∧ yl = yl ∧ yh = yh ∧ xl = xl ∧ xh = xh ∧ Int.ofNat 0 = 0 ∧ Int.ofNat 0 = 0 ∧ xl = xl ∧ yl = yl ∧ xl = xl ∧ yh = yh ∧ xh = xh ∧ yl = yl ∧ xh = xh ∧ yh = yh ∧ s.1 = s_1.1 ∧ s.2 = s_1.2 ∧ s.3 = s_1.3 ∧ s.4 = s_1.4 ∧ True) ∧
 FoR fa fb fc fd (IntKind.i64.wrap (IntKind.i64.wrap (IntKind.i64.wrap (0 + 1) + 1) + 1)) s_1.1 s_1.2 s_1.3 s_1.4))) ∧
 BfOk xh yl s.1 s.2 ∧
 bcase (bf xh yl s.a s.b)
 (BfOk s.3 s.4 xh yl ∧
 bcase (bf s.c s.d xh yl)
 (∃ (s : Fo),
 (Int.ofNat 0 = 0 ∧
 Value.agg #[Value.int IntKind.i64 xl, Value.int IntKind.i64 yl, Value.int IntKind.i64 xl, Value.int IntKind.i64 yh, Value.int IntKind.i64 xh, Value.int IntKind.i64 yl, Value.int IntKind.i64 xh, Value.int IntKind.i64 yh] =
 Value.agg #[Value.int IntKind.i64 xl, Value.int IntKind.i64 yl, Value.int IntKind.i64 xl, Value.int IntKind.i64 yh, Value.int IntKind.i64 xh, Value.int IntKind.i64 yl, Value.int IntKind.i64 xh, Value.int IntKind.i64 yh] ∧
 IntKind.i64.wrap (IntKind.i64.wrap (0 + 1) + 1) = IntKind.i64.wrap (IntKind.i64.wrap (0 + 1) + 1) ∧ yl = yl ∧ yh = yh ∧ xl = xl ∧ xh = xh ∧ Int.ofNat 0 = 0 ∧ Int.ofNat 0 = 0 ∧ xl = xl ∧ yl = yl ∧ xl = xl ∧ yh = yh ∧ xh = xh ∧ yl = yl ∧ xh = xh ∧ yh = yh ∧ xh = s.1 ∧ yl = s.2 ∧ xh = s.3 ∧ yl = s.4 ∧ True) ∧
 FoR fa fb fc fd (IntKind.i64.wrap (IntKind.i64.wrap (0 + 1) + 1)) s.1 s.2 s.3 s.4)
 (∃ (s_1 : Fo),
 (Int.ofNat 0 = 0 ∧
 Value.agg #[Value.int IntKind.i64 xl, Value.int IntKind.i64 yl, Value.int IntKind.i64 xl, Value.int IntKind.i64 yh, Value.int IntKind.i64 xh, Value.int IntKind.i64 yl, Value.int IntKind.i64 xh, Value.int IntKind.i64 yh] =
 Value.agg #[Value.int IntKind.i64 xl, Value.int IntKind.i64 yl, Value.int IntKind.i64 xl, Value.int IntKind.i64 yh, Value.int IntKind.i64 xh, Value.int IntKind.i64 yl, Value.int IntKind.i64 xh, Value.int IntKind.i64 yh] ∧
 IntKind.i64.wrap (IntKind.i64.wrap (0 + 1) + 1) = IntKind.i64.wrap (IntKind.i64.wrap (0 + 1) + 1) ∧ yl = yl ∧ yh = yh ∧ xl = xl ∧ xh = xh ∧ Int.ofNat 0 = 0 ∧ Int.ofNat 0 = 0 ∧ xl = xl ∧ yl = yl ∧ xl = xl ∧ yh = yh ∧ xh = xh ∧ yl = yl ∧ xh = xh ∧ yh = yh ∧ xh = s_1.1 ∧ yl = s_1.2 ∧ s.3 = s_1.3 ∧ s.4 = s_1.4 ∧ True) ∧
 FoR fa fb fc fd (IntKind.i64.wrap (IntKind.i64.wrap (0 + 1) + 1)) s_1.1 s_1.2 s_1.3 s_1.4))
 (BfOk s.3 s.4 xh yl ∧
 bcase (bf s.c s.d xh yl)
 (∃ (s_1 : Fo),
 (Int.ofNat 0 = 0 ∧
 Value.agg #[Value.int IntKind.i64 xl, Value.int IntKind.i64 yl, Value.int IntKind.i64 xl, Value.int IntKind.i64 yh, Value.int IntKind.i64 xh, Value.int IntKind.i64 yl, Value.int IntKind.i64 xh, Value.int IntKind.i64 yh] =
 Value.agg #[Value.int IntKind.i64 xl, Value.int IntKind.i64 yl, Value.int IntKind.i64 xl, Value.int IntKind.i64 yh, Value.int IntKind.i64 xh, Value.int IntKind.i64 yl, Value.int IntKind.i64 xh, Value.int IntKind.i64 yh] ∧
 IntKind.i64.wrap (IntKind.i64.wrap (0 + 1) + 1) = IntKind.i64.wrap (IntKind.i64.wrap (0 + 1) + 1) ∧ yl = yl ∧ yh = yh ∧ xl = xl ∧ xh = xh ∧ Int.ofNat 0 = 0 ∧ Int.ofNat 0 = 0 ∧ xl = xl ∧ yl = yl ∧ xl = xl ∧ yh = yh ∧ xh = xh ∧ yl = yl ∧ xh = xh ∧ yh = yh ∧ s.1 = s_1.1 ∧ s.2 = s_1.2 ∧ xh = s_1.3 ∧ yl = s_1.4 ∧ True) ∧
 FoR fa fb fc fd (IntKind.i64.wrap (IntKind.i64.wrap (0 + 1) + 1)) s_1.1 s_1.2 s_1.3 s_1.4)
 (∃ (s_1 : Fo),
 (Int.ofNat 0 = 0 ∧
 Value.agg #[Value.int IntKind.i64 xl, Value.int IntKind.i64 yl, Value.int IntKind.i64 xl, Value.int IntKind.i64 yh, Value.int IntKind.i64 xh, Value.int IntKind.i64 yl, Value.int IntKind.i64 xh, Value.int IntKind.i64 yh] =
 Value.agg #[Value.int IntKind.i64 xl, Value.int IntKind.i64 yl, Value.int IntKind.i64 xl, Value.int IntKind.i64 yh, Value.int IntKind.i64 xh, Value.int IntKind.i64 yl, Value.int IntKind.i64 xh, Value.int IntKind.i64 yh] ∧
 IntKind.i64.wrap (IntKind.i64.wrap (0 + 1) + 1) = IntKind.i64.wrap (IntKind.i64.wrap (0 + 1) + 1) ∧ yl = yl ∧ yh = yh ∧ xl = xl ∧ xh = xh ∧ Int.ofNat 0 = 0 ∧ Int.ofNat 0 = 0 ∧ xl = xl ∧ yl = yl ∧ xl = xl ∧ yh = yh ∧ xh = xh ∧ yl = yl ∧ xh = xh ∧ yh = yh ∧ s.1 = s_1.1 ∧ s.2 = s_1.2 ∧ s.3 = s_1.3 ∧ s.4 = s_1.4 ∧ True) ∧
 FoR fa fb fc fd (IntKind.i64.wrap (IntKind.i64.wrap (0 + 1) + 1)) s_1.1 s_1.2 s_1.3 s_1.4))) ∧
 BfOk xl yh s.1 s.2 ∧
 bcase (bf xl yh s.a s.b)
 (BfOk s.3 s.4 xl yh ∧
 bcase (bf s.c s.d xl yh)
 (∃ (s : Fo),
 (Int.ofNat 0 = 0 ∧
 Value.agg #[Value.int IntKind.i64 xl, Value.int IntKind.i64 yl, Value.int IntKind.i64 xl, Value.int IntKind.i64 yh, Value.int IntKind.i64 xh, Value.int IntKind.i64 yl, Value.int IntKind.i64 xh, Value.int IntKind.i64 yh] =
 Value.agg #[Value.int IntKind.i64 xl, Value.int IntKind.i64 yl, Value.int IntKind.i64 xl, Value.int IntKind.i64 yh, Value.int IntKind.i64 xh, Value.int IntKind.i64 yl, Value.int IntKind.i64 xh, Value.int IntKind.i64 yh] ∧
 IntKind.i64.wrap (0 + 1) = IntKind.i64.wrap (0 + 1) ∧ yl = yl ∧ yh = yh ∧ xl = xl ∧ xh = xh ∧ Int.ofNat 0 = 0 ∧ Int.ofNat 0 = 0 ∧ xl = xl ∧ yl = yl ∧ xl = xl ∧ yh = yh ∧ xh = xh ∧ yl = yl ∧ xh = xh ∧ yh = yh ∧ xl = s.1 ∧ yh = s.2 ∧ xl = s.3 ∧ yh = s.4 ∧ True) ∧
 FoR fa fb fc fd (IntKind.i64.wrap (0 + 1)) s.1 s.2 s.3 s.4)
 (∃ (s_1 : Fo),
 (Int.ofNat 0 = 0 ∧
 Value.agg #[Value.int IntKind.i64 xl, Value.int IntKind.i64 yl, Value.int IntKind.i64 xl, Value.int IntKind.i64 yh, Value.int IntKind.i64 xh, Value.int IntKind.i64 yl, Value.int IntKind.i64 xh, Value.int IntKind.i64 yh] =
 Value.agg #[Value.int IntKind.i64 xl, Value.int IntKind.i64 yl, Value.int IntKind.i64 xl, Value.int IntKind.i64 yh, Value.int IntKind.i64 xh, Value.int IntKind.i64 yl, Value.int IntKind.i64 xh, Value.int IntKind.i64 yh] ∧
 IntKind.i64.wrap (0 + 1) = IntKind.i64.wrap (0 + 1) ∧ yl = yl ∧ yh = yh ∧ xl = xl ∧ xh = xh ∧ Int.ofNat 0 = 0 ∧ Int.ofNat 0 = 0 ∧ xl = xl ∧ yl = yl ∧ xl = xl ∧ yh = yh ∧ xh = xh ∧ yl = yl ∧ xh = xh ∧ yh = yh ∧ xl = s_1.1 ∧ yh = s_1.2 ∧ s.3 = s_1.3 ∧ s.4 = s_1.4 ∧ True) ∧
 FoR fa fb fc fd (IntKind.i64.wrap (0 + 1)) s_1.1 s_1.2 s_1.3 s_1.4))
 (BfOk s.3 s.4 xl yh ∧
 bcase (bf s.c s.d xl yh)
 (∃ (s_1 : Fo),
 (Int.ofNat 0 = 0 ∧
 Value.agg #[Value.int IntKind.i64 xl, Value.int IntKind.i64 yl, Value.int IntKind.i64 xl, Value.int IntKind.i64 yh, Value.int IntKind.i64 xh, Value.int IntKind.i64 yl, Value.int IntKind.i64 xh, Value.int IntKind.i64 yh] =
 Value.agg #[Value.int IntKind.i64 xl, Value.int IntKind.i64 yl, Value.int IntKind.i64 xl, Value.int IntKind.i64 yh, Value.int IntKind.i64 xh, Value.int IntKind.i64 yl, Value.int IntKind.i64 xh, Value.int IntKind.i64 yh] ∧
 IntKind.i64.wrap (0 + 1) = IntKind.i64.wrap (0 + 1) ∧ yl = yl ∧ yh = yh ∧ xl = xl ∧ xh = xh ∧ Int.ofNat 0 = 0 ∧ Int.ofNat 0 = 0 ∧ xl = xl ∧ yl = yl ∧ xl = xl ∧ yh = yh ∧ xh = xh ∧ yl = yl ∧ xh = xh ∧ yh = yh ∧ s.1 = s_1.1 ∧ s.2 = s_1.2 ∧ xl = s_1.3 ∧ yh = s_1.4 ∧ True) ∧
 FoR fa fb fc fd (IntKind.i64.wrap (0 + 1)) s_1.1 s_1.2 s_1.3 s_1.4)
 (∃ (s_1 : Fo),
 (Int.ofNat 0 = 0 ∧
 Value.agg #[Value.int IntKind.i64 xl, Value.int IntKind.i64 yl, Value.int IntKind.i64 xl, Value.int IntKind.i64 yh, Value.int IntKind.i64 xh, Value.int IntKind.i64 yl, Value.int IntKind.i64 xh, Value.int IntKind.i64 yh] =
 Value.agg #[Value.int IntKind.i64 xl, Value.int IntKind.i64 yl, Value.int IntKind.i64 xl, Value.int IntKind.i64 yh, Value.int IntKind.i64 xh, Value.int IntKind.i64 yl, Value.int IntKind.i64 xh, Value.int IntKind.i64 yh] ∧
 IntKind.i64.wrap (0 + 1) = IntKind.i64.wrap (0 + 1) ∧ yl = yl ∧ yh = yh ∧ xl = xl ∧ xh = xh ∧ Int.ofNat 0 = 0 ∧ Int.ofNat 0 = 0 ∧ xl = xl ∧ yl = yl ∧ xl = xl ∧ yh = yh ∧ xh = xh ∧ yl = yl ∧ xh = xh ∧ yh = yh ∧ s.1 = s_1.1 ∧ s.2 = s_1.2 ∧ s.3 = s_1.3 ∧ s.4 = s_1.4 ∧ True) ∧
 FoR fa fb fc fd (IntKind.i64.wrap (0 + 1)) s_1.1 s_1.2 s_1.3 s_1.4))) ∧
 BfOk xl yl xl yl ∧
 bcase (bf xl yl xl yl)
 (BfOk xl yl xl yl ∧
 bcase (bf xl yl xl yl)
 (∃ (s : Fo),
 (Int.ofNat 0 = 0 ∧
 Value.agg #[Value.int IntKind.i64 xl, Value.int IntKind.i64 yl, Value.int IntKind.i64 xl, Value.int IntKind.i64 yh, Value.int IntKind.i64 xh, Value.int IntKind.i64 yl, Value.int IntKind.i64 xh, Value.int IntKind.i64 yh] =
 Value.agg #[Value.int IntKind.i64 xl, Value.int IntKind.i64 yl, Value.int IntKind.i64 xl, Value.int IntKind.i64 yh, Value.int IntKind.i64 xh, Value.int IntKind.i64 yl, Value.int IntKind.i64 xh, Value.int IntKind.i64 yh] ∧
 Int.ofNat 0 = 0 ∧ yl = yl ∧ yh = yh ∧ xl = xl ∧ xh = xh ∧ Int.ofNat 0 = 0 ∧ Int.ofNat 0 = 0 ∧ xl = xl ∧ yl = yl ∧ xl = xl ∧ yh = yh ∧ xh = xh ∧ yl = yl ∧ xh = xh ∧ yh = yh ∧ xl = s.1 ∧ yl = s.2 ∧ xl = s.3 ∧ yl = s.4 ∧ True) ∧
 FoR fa fb fc fd 0 s.1 s.2 s.3 s.4)
 (∃ (s : Fo),
 (Int.ofNat 0 = 0 ∧
 Value.agg #[Value.int IntKind.i64 xl, Value.int IntKind.i64 yl, Value.int IntKind.i64 xl, Value.int IntKind.i64 yh, Value.int IntKind.i64 xh, Value.int IntKind.i64 yl, Value.int IntKind.i64 xh, Value.int IntKind.i64 yh] =
 Value.agg #[Value.int IntKind.i64 xl, Value.int IntKind.i64 yl, Value.int IntKind.i64 xl, Value.int IntKind.i64 yh, Value.int IntKind.i64 xh, Value.int IntKind.i64 yl, Value.int IntKind.i64 xh, Value.int IntKind.i64 yh] ∧
 Int.ofNat 0 = 0 ∧ yl = yl ∧ yh = yh ∧ xl = xl ∧ xh = xh ∧ Int.ofNat 0 = 0 ∧ Int.ofNat 0 = 0 ∧ xl = xl ∧ yl = yl ∧ xl = xl ∧ yh = yh ∧ xh = xh ∧ yl = yl ∧ xh = xh ∧ yh = yh ∧ xl = s.1 ∧ yl = s.2 ∧ xl = s.3 ∧ yl = s.4 ∧ True) ∧
 FoR fa fb fc fd 0 s.1 s.2 s.3 s.4))
 (BfOk xl yl xl yl ∧
 bcase (bf xl yl xl yl)
 (∃ (s : Fo),
 (Int.ofNat 0 = 0 ∧
 Value.agg #[Value.int IntKind.i64 xl, Value.int IntKind.i64 yl, Value.int IntKind.i64 xl, Value.int IntKind.i64 yh, Value.int IntKind.i64 xh, Value.int IntKind.i64 yl, Value.int IntKind.i64 xh, Value.int IntKind.i64 yh] =
 Value.agg #[Value.int IntKind.i64 xl, Value.int IntKind.i64 yl, Value.int IntKind.i64 xl, Value.int IntKind.i64 yh, Value.int IntKind.i64 xh, Value.int IntKind.i64 yl, Value.int IntKind.i64 xh, Value.int IntKind.i64 yh] ∧
 Int.ofNat 0 = 0 ∧ yl = yl ∧ yh = yh ∧ xl = xl ∧ xh = xh ∧ Int.ofNat 0 = 0 ∧ Int.ofNat 0 = 0 ∧ xl = xl ∧ yl = yl ∧ xl = xl ∧ yh = yh ∧ xh = xh ∧ yl = yl ∧ xh = xh ∧ yh = yh ∧ xl = s.1 ∧ yl = s.2 ∧ xl = s.3 ∧ yl = s.4 ∧ True) ∧
 FoR fa fb fc fd 0 s.1 s.2 s.3 s.4)
 (∃ (s : Fo),
 (Int.ofNat 0 = 0 ∧
 Value.agg #[Value.int IntKind.i64 xl, Value.int IntKind.i64 yl, Value.int IntKind.i64 xl, Value.int IntKind.i64 yh, Value.int IntKind.i64 xh, Value.int IntKind.i64 yl, Value.int IntKind.i64 xh, Value.int IntKind.i64 yh] =
 Value.agg #[Value.int IntKind.i64 xl, Value.int IntKind.i64 yl, Value.int IntKind.i64 xl, Value.int IntKind.i64 yh, Value.int IntKind.i64 xh, Value.int IntKind.i64 yl, Value.int IntKind.i64 xh, Value.int IntKind.i64 yh] ∧
 Int.ofNat 0 = 0 ∧ yl = yl ∧ yh = yh ∧ xl = xl ∧ xh = xh ∧ Int.ofNat 0 = 0 ∧ Int.ofNat 0 = 0 ∧ xl = xl ∧ yl = yl ∧ xl = xl ∧ yh = yh ∧ xh = xh ∧ yl = yl ∧ xh = xh ∧ yh = yh ∧ xl = s.1 ∧ yl = s.2 ∧ xl = s.3 ∧ yl = s.4 ∧ True) ∧
 FoR fa fb fc fd 0 s.1 s.2 s.3 s.4)))))) := by kernel_rfl
end Go.Proofs.YtjdcicjhpegphaaGreat

/- The directions of a box: contracts. -/
namespace Go.Proofs.YtjdcicjhpegphaaGreat
open Go Go.Abs Go.RowKit
set_option linter.unusedVariables false
set_option linter.unusedSimpArgs false
/-- One more corner. -/
def stp (p : Fo) (x y : Int) : Fo := ⟨if befI x y p.a p.b = true then x else p.a, if befI x y p.a p.b = true then y else p.b, if befI p.c p.d x y = true then x else p.c, if befI p.c p.d x y = true then y else p.d⟩
def fo1 (yl xl : Int) : Fo := stp ⟨xl, yl, xl, yl⟩ xl yl
def fo2 (yl yh xl : Int) : Fo := stp (fo1 yl xl) xl yh
def fo3 (yl yh xl xh : Int) : Fo := stp (fo2 yl yh xl) xh yl
/-- The first and the last one of the corners. -/
def fo4 (yl yh xl xh : Int) : Fo := stp (fo3 yl yh xl xh) xh yh
def foN (yl yh xl xh i : Int) : Fo := if i = 0 then fo1 yl xl else if i = 1 then fo2 yl yh xl else if i = 2 then fo3 yl yh xl xh else fo4 yl yh xl xh
def foA (yl yh xl xh i : Int) : Int := (foN yl yh xl xh i).a
def foB (yl yh xl xh i : Int) : Int := (foN yl yh xl xh i).b
def foC (yl yh xl xh i : Int) : Int := (foN yl yh xl xh i).c
def foD (yl yh xl xh i : Int) : Int := (foN yl yh xl xh i).d
theorem foN1 (yl yh xl xh : Int) : foN yl yh xl xh 1 = stp (foN yl yh xl xh 0) xl yh := rfl
theorem foN2 (yl yh xl xh : Int) : foN yl yh xl xh 2 = stp (foN yl yh xl xh 1) xh yl := rfl
theorem foN3 (yl yh xl xh : Int) : foN yl yh xl xh 3 = stp (foN yl yh xl xh 2) xh yh := rfl
/-- A corner: not the origin. -/
def CnOk (x y : Int) : Prop := Fx2 x ∧ Fx2 y ∧ (x ≠ 0 ∨ y ≠ 0)
def FoOk (p : Fo) : Prop := CnOk p.a p.b ∧ CnOk p.c p.d
theorem stp_ok {p : Fo} {x y : Int} (h : FoOk p) (k : CnOk x y) : FoOk (stp p x y) := by
  unfold stp FoOk
  refine ⟨?_, ?_⟩ <;> dsimp only <;> split
  · exact k
  · exact h.1
  · exact k
  · exact h.2
theorem CnOk.pl {x y : Int} (h : CnOk x y) : PlOk x y := by
  obtain ⟨h1, h2, h3⟩ := h
  unfold Fx2 at h1 h2
  exact ⟨by omega, by omega, by omega, by omega, h3⟩
/-- The box holds the origin. -/
def BoxO (yl yh xl xh : Int) : Prop := xl ≤ 0 ∧ 0 ≤ xh ∧ yl ≤ 0 ∧ 0 ≤ yh
instance (yl yh xl xh : Int) : Decidable (BoxO yl yh xl xh) := by unfold BoxO; infer_instance
theorem box_corners {yl yh xl xh : Int} (h1 : FixV yl yh) (h2 : FixV xl xh) (h : ¬ BoxO yl yh xl xh) : CnOk xl yl ∧ CnOk xl yh ∧ CnOk xh yl ∧ CnOk xh yh := by
  unfold FixV at h1 h2
  unfold BoxO at h
  unfold CnOk Fx2
  omega
theorem fo_ok {yl yh xl xh : Int} (h1 : FixV yl yh) (h2 : FixV xl xh) (h : ¬ BoxO yl yh xl xh) : FoOk (foN yl yh xl xh 0) ∧ FoOk (foN yl yh xl xh 1) ∧ FoOk (foN yl yh xl xh 2) ∧ FoOk (foN yl yh xl xh 3) := by
  obtain ⟨a, b, c, d⟩ := box_corners h1 h2 h
  have e0 : FoOk (foN yl yh xl xh 0) := stp_ok ⟨a, a⟩ a
  have e1 : FoOk (foN yl yh xl xh 1) := by rw [foN1]; exact stp_ok e0 b
  have e2 : FoOk (foN yl yh xl xh 2) := by rw [foN2]; exact stp_ok e1 c
  have e3 : FoOk (foN yl yh xl xh 3) := by rw [foN3]; exact stp_ok e2 d
  exact ⟨e0, e1, e2, e3⟩
def bL (yl yh xl xh : Int) : Int := if BoxO yl yh xl xh then 0 else angP (fo4 yl yh xl xh).a (fo4 yl yh xl xh).b
def bH (yl yh xl xh : Int) : Int := if BoxO yl yh xl xh then 21600000 else (if angP (fo4 yl yh xl xh).c (fo4 yl yh xl xh).d < angP (fo4 yl yh xl xh).a (fo4 yl yh xl xh).b then angP (fo4 yl yh xl xh).c (fo4 yl yh xl xh).d + 21600000 else angP (fo4 yl yh xl xh).c (fo4 yl yh xl xh).d) + (if exaP (fo4 yl yh xl xh).c (fo4 yl yh xl xh).d = true then 0 else 1)
theorem ang_range {x y : Int} : 0 ≤ angP x y ∧ angP x y < 21600000 := by
  have h := qd_range x y
  have k := bsI_in (reaB (rxI x y) (ryI x y)) 5400000 0 5400000 (by decide) (by decide)
  unfold angP lowI
  omega
theorem b_range (yl yh xl xh : Int) : (0 ≤ bL yl yh xl xh ∧ bL yl yh xl xh < 21600000) ∧ bL yl yh xl xh ≤ bH yl yh xl xh ∧ bH yl yh xl xh ≤ bL yl yh xl xh + 21600000 := by
  unfold bL bH
  have h := @ang_range (fo4 yl yh xl xh).a (fo4 yl yh xl xh).b
  have k := @ang_range (fo4 yl yh xl xh).c (fo4 yl yh xl xh).d
  split
  · omega
  · split <;> split <;> omega
section
variable {yl yh xl xh i : Int} {p : Fo} {x y : Int} (hi : foN yl yh xl xh i = stp p x y)
include hi
theorem lf11 (h1 : befI x y p.a p.b = true) (h2 : befI p.c p.d x y = true) : FoR (foA yl yh xl xh) (foB yl yh xl xh) (foC yl yh xl xh) (foD yl yh xl xh) i x y x y :=
  ⟨by unfold foA; rw [hi]; exact (if_pos h1).symm, by unfold foB; rw [hi]; exact (if_pos h1).symm, by unfold foC; rw [hi]; exact (if_pos h2).symm, by unfold foD; rw [hi]; exact (if_pos h2).symm⟩
theorem lf10 (h1 : befI x y p.a p.b = true) (h2 : befI p.c p.d x y = false) : FoR (foA yl yh xl xh) (foB yl yh xl xh) (foC yl yh xl xh) (foD yl yh xl xh) i x y p.c p.d :=
  ⟨by unfold foA; rw [hi]; exact (if_pos h1).symm, by unfold foB; rw [hi]; exact (if_pos h1).symm, by unfold foC; rw [hi]; exact (if_neg (by rw [h2]; decide)).symm, by unfold foD; rw [hi]; exact (if_neg (by rw [h2]; decide)).symm⟩
theorem lf01 (h1 : befI x y p.a p.b = false) (h2 : befI p.c p.d x y = true) : FoR (foA yl yh xl xh) (foB yl yh xl xh) (foC yl yh xl xh) (foD yl yh xl xh) i p.a p.b x y :=
  ⟨by unfold foA; rw [hi]; exact (if_neg (by rw [h1]; decide)).symm, by unfold foB; rw [hi]; exact (if_neg (by rw [h1]; decide)).symm, by unfold foC; rw [hi]; exact (if_pos h2).symm, by unfold foD; rw [hi]; exact (if_pos h2).symm⟩
theorem lf00 (h1 : befI x y p.a p.b = false) (h2 : befI p.c p.d x y = false) : FoR (foA yl yh xl xh) (foB yl yh xl xh) (foC yl yh xl xh) (foD yl yh xl xh) i p.a p.b p.c p.d :=
  ⟨by unfold foA; rw [hi]; exact (if_neg (by rw [h1]; decide)).symm, by unfold foB; rw [hi]; exact (if_neg (by rw [h1]; decide)).symm, by unfold foC; rw [hi]; exact (if_neg (by rw [h2]; decide)).symm, by unfold foD; rw [hi]; exact (if_neg (by rw [h2]; decide)).symm⟩
end
variable {Φ : World → Prop} (hst : ∀ w w', Φ w → Below w.heap.size w w' → Φ w')
include hst
theorem c_atbefore {x y z u : Int} (h : BfOk x y z u) : Ans Tryz.prog Φ 122 [wid x y, wid z u] (.bool (befI x y z u)) := by
  refine fn_by hst Sound.nil (vc_atbefore x y z u _) ?_
  obtain ⟨h1, h2, h3, h4⟩ := h
  have m : ∀ {a b : Int}, Fx2 a → Fx2 b → -9223372036854775808 ≤ a * b ∧ a * b ≤ 9223372036854775807 := by
    intro a b ⟨a0, a1⟩ ⟨b0, b1⟩
    have h : (a * b).natAbs ≤ 2147483648 * 2147483648 := by
      rw [Int.natAbs_mul]
      exact Nat.mul_le_mul (by omega) (by omega)
    omega
  have m1 := m h1 h4
  have m2 := m h2 h3
  rw [wrap_in (n := x * u) (by omega), wrap_in (n := y * z) (by omega)]
  rfl
theorem s_Be : Sound Tryz.prog Φ (ΓBe angP exaP befI) :=
  Sound.cons (by kernel_rfl) (fun args p v h hp => by unfold sFxValid at h; split at h <;> cases h; exact c_fxvalid hst _ _)
  (Sound.cons (by kernel_rfl) (fun args p v h hp => by unfold sBef at h; split at h <;> cases h; exact c_atbefore hst hp)
  (Sound.cons (by kernel_rfl) (fun args p v h hp => by unfold sAng at h; split at h <;> cases h; exact c_atangle hst hp) Sound.nil))
theorem c_atbearing {yl yh xl xh : Int} (h1 : FixV yl yh) (h2 : FixV xl xh) : Ans Tryz.prog Φ 77 [wid yl yh, wid xl xh] (pair (wid (bL yl yh xl xh) (bH yl yh xl xh)) (num 0)) := by
  refine fn_by hst (s_Be hst) (vc_atbearing yl yh xl xh angP exaP befI (foA yl yh xl xh) (foB yl yh xl xh) (foC yl yh xl xh) (foD yl yh xl xh) _) ?_
  have w1 : IntKind.i64.wrap (0 + 1) = 1 := rfl
  have w2 : IntKind.i64.wrap (1 + 1) = 2 := rfl
  have w3 : IntKind.i64.wrap (2 + 1) = 3 := rfl
  rw [w1, w2, w3]
  rw [decide_eq_true h1, decide_eq_true h2]
  refine ⟨trivial, bcase_iff.mpr ⟨fun q => absurd q (by decide), fun _ => ⟨trivial, bcase_iff.mpr ⟨fun q => absurd q (by decide), fun _ => bcase_iff.mpr ⟨fun o1 => bcase_iff.mpr ⟨fun o2 => bcase_iff.mpr ⟨fun o3 => bcase_iff.mpr ⟨fun o4 => ?_, fun o4 => ?_⟩, fun o3 => ?_⟩, fun o2 => ?_⟩, fun o1 => ?_⟩⟩⟩⟩⟩
  · have o : BoxO yl yh xl xh := ⟨of_decide_eq_true o1, of_decide_eq_true o2, of_decide_eq_true o3, of_decide_eq_true o4⟩
    unfold bL bH
    rw [if_pos o, if_pos o]
  all_goals
    have o : ¬ BoxO yl yh xl xh := by
      unfold BoxO
      simp only [decide_eq_true_eq, decide_eq_false_iff_not] at *
      omega
    obtain ⟨k0, k1, k2, k3⟩ := box_corners h1 h2 o
    obtain ⟨f0, f1, f2, f3⟩ := fo_ok h1 h2 o
    have bo : ∀ {a b c d : Int}, CnOk a b → CnOk c d → BfOk a b c d := fun h k => ⟨h.1, h.2.1, k.1, k.2.1⟩
    refine ⟨?_, bo k0 k0, bcase_iff.mpr ⟨fun p => ⟨bo k0 k0, bcase_iff.mpr ⟨fun q => ⟨⟨xl, yl, xl, yl⟩, ?_, lf11 (p := ⟨xl, yl, xl, yl⟩) rfl p q⟩, fun q => ⟨⟨xl, yl, xl, yl⟩, ?_, lf10 (p := ⟨xl, yl, xl, yl⟩) rfl p q⟩⟩⟩, fun p => ⟨bo k0 k0, bcase_iff.mpr ⟨fun q => ⟨⟨xl, yl, xl, yl⟩, ?_, lf01 (p := ⟨xl, yl, xl, yl⟩) rfl p q⟩, fun q => ⟨⟨xl, yl, xl, yl⟩, ?_, lf00 (p := ⟨xl, yl, xl, yl⟩) rfl p q⟩⟩⟩⟩⟩
    · rintro ⟨a, b, c, d⟩ ⟨ea, eb, ec, ed⟩
      dsimp only at ea eb ec ed
      subst ea eb ec ed
      dsimp only
      refine ⟨?_, bo k1 f0.1, bcase_iff.mpr ⟨fun p => ⟨bo f0.2 k1, bcase_iff.mpr ⟨fun q => ⟨⟨xl, yh, xl, yh⟩, ?_, lf11 (p := foN yl yh xl xh 0) (x := xl) (y := yh) (foN1 yl yh xl xh) p q⟩, fun q => ⟨⟨xl, yh, (foN yl yh xl xh 0).c, (foN yl yh xl xh 0).d⟩, ?_, lf10 (p := foN yl yh xl xh 0) (x := xl) (y := yh) (foN1 yl yh xl xh) p q⟩⟩⟩, fun p => ⟨bo f0.2 k1, bcase_iff.mpr ⟨fun q => ⟨⟨(foN yl yh xl xh 0).a, (foN yl yh xl xh 0).b, xl, yh⟩, ?_, lf01 (p := foN yl yh xl xh 0) (x := xl) (y := yh) (foN1 yl yh xl xh) p q⟩, fun q => ⟨⟨(foN yl yh xl xh 0).a, (foN yl yh xl xh 0).b, (foN yl yh xl xh 0).c, (foN yl yh xl xh 0).d⟩, ?_, lf00 (p := foN yl yh xl xh 0) (x := xl) (y := yh) (foN1 yl yh xl xh) p q⟩⟩⟩⟩⟩
      · rintro ⟨a, b, c, d⟩ ⟨ea, eb, ec, ed⟩
        dsimp only at ea eb ec ed
        subst ea eb ec ed
        dsimp only
        refine ⟨?_, bo k2 f1.1, bcase_iff.mpr ⟨fun p => ⟨bo f1.2 k2, bcase_iff.mpr ⟨fun q => ⟨⟨xh, yl, xh, yl⟩, ?_, lf11 (p := foN yl yh xl xh 1) (x := xh) (y := yl) (foN2 yl yh xl xh) p q⟩, fun q => ⟨⟨xh, yl, (foN yl yh xl xh 1).c, (foN yl yh xl xh 1).d⟩, ?_, lf10 (p := foN yl yh xl xh 1) (x := xh) (y := yl) (foN2 yl yh xl xh) p q⟩⟩⟩, fun p => ⟨bo f1.2 k2, bcase_iff.mpr ⟨fun q => ⟨⟨(foN yl yh xl xh 1).a, (foN yl yh xl xh 1).b, xh, yl⟩, ?_, lf01 (p := foN yl yh xl xh 1) (x := xh) (y := yl) (foN2 yl yh xl xh) p q⟩, fun q => ⟨⟨(foN yl yh xl xh 1).a, (foN yl yh xl xh 1).b, (foN yl yh xl xh 1).c, (foN yl yh xl xh 1).d⟩, ?_, lf00 (p := foN yl yh xl xh 1) (x := xh) (y := yl) (foN2 yl yh xl xh) p q⟩⟩⟩⟩⟩
        · rintro ⟨a, b, c, d⟩ ⟨ea, eb, ec, ed⟩
          dsimp only at ea eb ec ed
          subst ea eb ec ed
          dsimp only
          refine ⟨?_, bo k3 f2.1, bcase_iff.mpr ⟨fun p => ⟨bo f2.2 k3, bcase_iff.mpr ⟨fun q => ⟨⟨xh, yh, xh, yh⟩, ?_, lf11 (p := foN yl yh xl xh 2) (x := xh) (y := yh) (foN3 yl yh xl xh) p q⟩, fun q => ⟨⟨xh, yh, (foN yl yh xl xh 2).c, (foN yl yh xl xh 2).d⟩, ?_, lf10 (p := foN yl yh xl xh 2) (x := xh) (y := yh) (foN3 yl yh xl xh) p q⟩⟩⟩, fun p => ⟨bo f2.2 k3, bcase_iff.mpr ⟨fun q => ⟨⟨(foN yl yh xl xh 2).a, (foN yl yh xl xh 2).b, xh, yh⟩, ?_, lf01 (p := foN yl yh xl xh 2) (x := xh) (y := yh) (foN3 yl yh xl xh) p q⟩, fun q => ⟨⟨(foN yl yh xl xh 2).a, (foN yl yh xl xh 2).b, (foN yl yh xl xh 2).c, (foN yl yh xl xh 2).d⟩, ?_, lf00 (p := foN yl yh xl xh 2) (x := xh) (y := yh) (foN3 yl yh xl xh) p q⟩⟩⟩⟩⟩
          · rintro ⟨a, b, c, d⟩ ⟨ea, eb, ec, ed⟩
            dsimp only at ea eb ec ed
            subst ea eb ec ed
            dsimp only
            have r1 := @ang_range (fo4 yl yh xl xh).a (fo4 yl yh xl xh).b
            have r2 := @ang_range (fo4 yl yh xl xh).c (fo4 yl yh xl xh).d
            refine ⟨f3.1.pl, f3.2.pl, ?_⟩
            show bcase (decide (angP (fo4 yl yh xl xh).c (fo4 yl yh xl xh).d < angP (fo4 yl yh xl xh).a (fo4 yl yh xl xh).b)) (bcase (!exaP (fo4 yl yh xl xh).c (fo4 yl yh xl xh).d) (Value.tuple #[wid (angP (fo4 yl yh xl xh).a (fo4 yl yh xl xh).b) (IntKind.i64.wrap (IntKind.i64.wrap (angP (fo4 yl yh xl xh).c (fo4 yl yh xl xh).d + 21600000) + 1)), num 0] = _) (Value.tuple #[wid (angP (fo4 yl yh xl xh).a (fo4 yl yh xl xh).b) (IntKind.i64.wrap (angP (fo4 yl yh xl xh).c (fo4 yl yh xl xh).d + 21600000)), num 0] = _)) (bcase (!exaP (fo4 yl yh xl xh).c (fo4 yl yh xl xh).d) (Value.tuple #[wid (angP (fo4 yl yh xl xh).a (fo4 yl yh xl xh).b) (IntKind.i64.wrap (angP (fo4 yl yh xl xh).c (fo4 yl yh xl xh).d + 1)), num 0] = _) (Value.tuple #[wid (angP (fo4 yl yh xl xh).a (fo4 yl yh xl xh).b) (angP (fo4 yl yh xl xh).c (fo4 yl yh xl xh).d), num 0] = _))
            unfold bL bH
            rw [if_neg o, if_neg o]
            generalize angP (fo4 yl yh xl xh).a (fo4 yl yh xl xh).b = A at *
            generalize angP (fo4 yl yh xl xh).c (fo4 yl yh xl xh).d = C at *
            rw [wrap_in (n := C + 21600000) (by omega), wrap_in (n := C + 21600000 + 1) (by omega), wrap_in (n := C + 1) (by omega)]
            refine bcase_iff.mpr ⟨fun u => bcase_iff.mpr ⟨fun v => ?_, fun v => ?_⟩, fun u => bcase_iff.mpr ⟨fun v => ?_, fun v => ?_⟩⟩
            all_goals simp only [Bool.not_eq_true', Bool.not_eq_false'] at v
            · rw [if_pos (of_decide_eq_true u), if_neg (by rw [v]; decide)]
            · rw [if_pos (of_decide_eq_true u), if_pos v, Int.add_zero]
            · rw [if_neg (of_decide_eq_false u), if_neg (by rw [v]; decide)]
            · rw [if_neg (of_decide_eq_false u), if_pos v, Int.add_zero]
          all_goals exact ⟨rfl, rfl, rfl, rfl, rfl, rfl, rfl, rfl, rfl, rfl, rfl, rfl, rfl, rfl, rfl, rfl, rfl, rfl, rfl, rfl, rfl, trivial⟩
        all_goals exact ⟨rfl, rfl, rfl, rfl, rfl, rfl, rfl, rfl, rfl, rfl, rfl, rfl, rfl, rfl, rfl, rfl, rfl, rfl, rfl, rfl, rfl, trivial⟩
      all_goals exact ⟨rfl, rfl, rfl, rfl, rfl, rfl, rfl, rfl, rfl, rfl, rfl, rfl, rfl, rfl, rfl, rfl, rfl, rfl, rfl, rfl, rfl, trivial⟩
    all_goals exact ⟨rfl, rfl, rfl, rfl, rfl, rfl, rfl, rfl, rfl, rfl, rfl, rfl, rfl, rfl, rfl, rfl, rfl, rfl, rfl, rfl, rfl, trivial⟩
end Go.Proofs.YtjdcicjhpegphaaGreat

/- The sine grows in the first quarter, by at most 2500 of 2^-30 from one unit to the next. -/
namespace Go.Proofs.YtjdcicjhpegphaaGreat
open Go Go.Abs Go.RowKit Go.Sine
set_option linter.unusedVariables false
set_option linter.unusedSimpArgs false
theorem small_e {y : Rat} (hy : 0 ≤ y) (h4 : 1000 * y ≤ 1) (hp : 1 ≤ 2 ^ 22 * y) : 0 ≤ e 2 y ∧ 2000 * e 2 y ≤ y ∧ 1 ≤ 2 ^ 45 * e 2 y ∧ 0 ≤ e 3 y ∧ 3000 * e 3 y ≤ e 2 y ∧ 0 ≤ e 4 y ∧ 4000 * e 4 y ≤ e 3 y ∧ 0 ≤ e 5 y ∧ 0 ≤ e 6 y ∧ 2 * e 6 y ≤ e 4 y ∧ 2 * e 5 y ≤ e 3 y := by
  have y1 : y ≤ 1 := by grind
  have n1 := e_nonneg hy 1; have n2 := e_nonneg hy 2; have n3 := e_nonneg hy 3; have n4 := e_nonneg hy 4; have n5 := e_nonneg hy 5; have n6 := e_nonneg hy 6
  have l5 := e_half hy y1 3; have l6 := e_half hy y1 4
  have s2 := e_succ 1 y; have s3 := e_succ 2 y; have s4 := e_succ 3 y
  have c1 : ((1 : Nat) : Rat) = 1 := rfl
  have c2 : ((2 : Nat) : Rat) = 2 := rfl
  have c3 : ((3 : Nat) : Rat) = 3 := rfl
  rw [c1] at s2
  rw [c2] at s3
  rw [c3] at s4
  simp only [Nat.reduceAdd] at s2 s3 s4 l5 l6
  have e1 := e_one y
  rw [e1] at s2
  have m2 := Rat.mul_le_mul_of_nonneg_right h4 hy
  have m3 := Rat.mul_le_mul_of_nonneg_right h4 n2
  have m4 := Rat.mul_le_mul_of_nonneg_right h4 n3
  have q1 := Rat.mul_le_mul_of_nonneg_right hp hy
  refine ⟨n2, by grind, by grind, n3, by grind, n4, by grind, n5, n6, l6, l5⟩
theorem ga_si {y : Rat} (hy : 0 ≤ y) (h4 : 1000 * y ≤ 1) (hp : 1 ≤ 2 ^ 22 * y) : -y ≤ 1000 * (ga y - 1) ∧ 1000 * (ga y - 1) ≤ -999 * e 2 y ∧ 999 * y ≤ 1000 * si y := by
  obtain ⟨a, b, c, d, e', f, g, h, i, j, k⟩ := small_e hy h4 hp
  have e1 := e_one y
  unfold ga si
  refine ⟨by grind, by grind, by grind⟩
theorem sn_up {x y : Rat} (hx : 0 ≤ x) (hy : 0 ≤ y) (h4 : 1000 * y ≤ 1) (hp : 1 ≤ 2 ^ 22 * y) (h1 : x + y ≤ 1) : sn x ≤ sn (x + y) := by
  have a := (sn_add hx hy h1).1
  have s := sn_le hx (by grind)
  have ch := cs_half hx (by grind)
  obtain ⟨_, b, c, _, e', _, g, _, _, j, _⟩ := small_e hy h4 hp
  obtain ⟨g1, g2, g3⟩ := ga_si hy h4 hp
  have m1 := mul_abs (a := 1000 * (ga y - 1)) (d := y) (t := sn x) g1 (by grind) s.1 (by grind) hy
  have m2 := Rat.mul_le_mul_of_nonneg_right ch (show 0 ≤ si y by grind)
  generalize e 6 y = e6 at *
  generalize e 4 y = e4 at *
  generalize e 3 y = e3 at *
  generalize e 2 y = e2 at *
  generalize si y = S at *
  generalize ga y = G at *
  grind
theorem cs_down {x y : Rat} (hx : 0 ≤ x) (hy : 0 ≤ y) (h4 : 1000 * y ≤ 1) (hp : 1 ≤ 2 ^ 22 * y) (h1 : x + y ≤ 1) : 1 ≤ 2 ^ 48 * (cs x - cs (x + y)) := by
  have a := (cs_add hx hy h1).2
  have s := sn_le hx (by grind)
  have ch := cs_half hx (by grind)
  obtain ⟨n2, b, c, _, e', _, g, _, _, j, _⟩ := small_e hy h4 hp
  obtain ⟨g1, g2, g3⟩ := ga_si hy h4 hp
  have m1 := Rat.mul_nonneg s.1 (show 0 ≤ si y by grind)
  have m2 := Rat.mul_le_mul_of_nonneg_right ch (show 0 ≤ 1000 * (1 - ga y) by grind)
  generalize e 6 y = e6 at *
  generalize e 4 y = e4 at *
  generalize e 3 y = e3 at *
  generalize e 2 y = e2 at *
  generalize si y = S at *
  generalize ga y = G at *
  grind
theorem an_one : (0 ≤ an 1 ∧ 1000 * an 1 ≤ 1) ∧ 1 ≤ 2 ^ 22 * an 1 ∧ 2 ^ 30 * (8 * an 1) ≤ 2499 := by
  refine ⟨⟨an_nonneg 1, an_small (by decide)⟩, an_pos (by decide), ?_⟩
  unfold an
  decide +kernel
theorem mid45 : -436 ≤ 2 ^ 62 * (cs (an 2700000) - sn (an 2700000)) ∧ 2 ^ 62 * (cs (an 2700000) - sn (an 2700000)) ≤ 436 := by
  have s := qs_err (r := 2700000) (Nat.le_refl _)
  have c := qc_err (r := 2700000) (Nat.le_refl _)
  obtain ⟨n1, n2⟩ := near45
  have n1 := i_le n1
  have n2 := i_le n2
  rw [Rat.intCast_sub] at n1 n2
  have c1 : ((-20 : Int) : Rat) = -20 := rfl
  have c2 : ((20 : Int) : Rat) = 20 := rfl
  rw [c1] at n1
  rw [c2] at n2
  generalize sn (an 2700000) = S at *
  generalize cs (an 2700000) = C at *
  generalize ((qs 2700000 : Int) : Rat) = u at *
  generalize ((qc 2700000 : Int) : Rat) = v at *
  constructor <;> grind
theorem tQ_step {p : Nat} (h : p + 1 ≤ 5400000) : tQ p ≤ tQ (p + 1) ∧ 2 ^ 30 * (tQ (p + 1) - tQ p) ≤ 2500 := by
  obtain ⟨⟨y0, y4⟩, yp, y8⟩ := an_one
  rcases (show p + 1 ≤ 2700000 ∨ p = 2700000 ∨ 2700001 ≤ p by omega) with k | k | k
  · have l := le1 (an_le k)
    unfold tQ
    rw [if_pos (by omega), if_pos (by omega), an_add] at *
    have x0 := an_nonneg p
    have u := sn_up x0 y0 y4 yp l
    have v := (sn_lip x0 y0 l).2
    generalize sn (an p + an 1) = S at *
    generalize sn (an p) = C at *
    generalize an 1 = y at *
    clear l x0
    exact ⟨u, by grind⟩
  · subst k
    have e : tQ (2700000 + 1) = cs (an 2699999) := by unfold tQ; rw [if_neg (by decide)]
    have e' : tQ 2700000 = sn (an 2700000) := by unfold tQ; rw [if_pos (by decide)]
    have ea : an 2700000 = an 2699999 + an 1 := an_add 2699999 1
    have m := mid45
    rw [e, e']
    have l := le1 (an_le (r := 2700000) (by decide))
    rw [ea] at l m ⊢
    have x0 := an_nonneg 2699999
    have u := cs_down x0 y0 y4 yp l
    have v := (cs_lip x0 y0 l).1
    generalize sn (an 2699999 + an 1) = S at *
    generalize cs (an 2699999 + an 1) = T at *
    generalize cs (an 2699999) = C at *
    generalize an 1 = y at *
    clear l x0
    constructor <;> grind
  · obtain ⟨q, hq⟩ : ∃ q, p + q + 1 = 5400000 := ⟨5400000 - (p + 1), by omega⟩
    have e : tQ (p + 1) = cs (an q) := by unfold tQ; rw [if_neg (by omega), show 5400000 - (p + 1) = q by omega]
    have e' : tQ p = cs (an q + an 1) := by unfold tQ; rw [if_neg (by omega), show 5400000 - p = q + 1 by omega, an_add]
    have l := le1 (an_le (r := q + 1) (by omega))
    rw [e, e']
    rw [an_add] at l
    have x0 := an_nonneg q
    have u := cs_down x0 y0 y4 yp l
    have v := (cs_lip x0 y0 l).1
    generalize cs (an q + an 1) = T at *
    generalize cs (an q) = C at *
    generalize an 1 = y at *
    clear l x0 e e' hq k h
    constructor <;> grind
theorem fl_step {m n : Int} {S T : Rat} (h : IsFl m S) (k : IsFl n T) (st : S ≤ T ∧ 2 ^ 30 * (T - S) ≤ 2500) : m ≤ n ∧ n ≤ m + 2500 := by
  unfold IsFl at h k
  have a : (m : Rat) < ((n + 1 : Int) : Rat) := by rw [Rat.intCast_add, z1]; grind
  have b : (n : Rat) < ((m + 2501 : Int) : Rat) := by
    rw [Rat.intCast_add, show ((2501 : Int) : Rat) = 2501 from rfl]; grind
  have a := Rat.intCast_lt_intCast.mp a
  have b := Rat.intCast_lt_intCast.mp b
  omega
theorem sinP_spots : (sinP 0 = 0 ∧ sinP 1 = 312) ∧ (sinP 1799999 = 536870641 ∧ sinP 1800000 = 536870912 ∧ sinP 1800001 = 536871182) ∧ sinP 5399999 = 1073741823 ∧ sinP 5400000 = 1073741824 := by
  decide +kernel
theorem up_spots : (upI 0 = 0 ∧ upI 1 = 313) ∧ (upI 1799999 = 536870642 ∧ upI 1800000 = 536870912 ∧ upI 1800001 = 536871183) ∧ upI 5399999 = 1073741824 ∧ upI 5400000 = 1073741824 := by
  obtain ⟨⟨a, b⟩, ⟨c, d, e⟩, f, g⟩ := sinP_spots
  unfold upI
  rw [a, b, c, d, e, f, g]
  decide
theorem sin_step {p : Int} (h0 : 0 ≤ p) (h1 : p < 5400000) : (sinP p ≤ sinP (p + 1) ∧ sinP (p + 1) ≤ sinP p + 2500) ∧ upI p ≤ upI (p + 1) ∧ upI (p + 1) ≤ upI p + 2500 := by
  obtain ⟨⟨a, b⟩, ⟨c, d, e⟩, f, g⟩ := sinP_spots
  obtain ⟨⟨a', b'⟩, ⟨c', d', e'⟩, f', g'⟩ := up_spots
  by_cases k : p = 0 ∨ p = 1799999 ∨ p = 1800000 ∨ p = 5399999
  · rcases k with rfl | rfl | rfl | rfl
    · rw [show (0 : Int) + 1 = 1 from rfl]; omega
    · rw [show (1799999 : Int) + 1 = 1800000 from rfl]; omega
    · rw [show (1800000 : Int) + 1 = 1800001 from rfl]; omega
    · rw [show (5399999 : Int) + 1 = 5400000 from rfl]; omega
  · obtain ⟨q, rfl⟩ := Int.eq_ofNat_of_zero_le h0
    have x1 : exB ((q : Nat) : Int) = false := by
      unfold exB
      simp only [Bool.or_eq_false_iff, beq_eq_false_iff_ne]
      omega
    have x2 : exB ((q + 1 : Nat) : Int) = false := by
      unfold exB
      simp only [Bool.or_eq_false_iff, beq_eq_false_iff_ne]
      omega
    have s := fl_step (far_tQ x1 (by omega)).2 (far_tQ x2 (by omega)).2 (tQ_step (by omega))
    have e2 : ((q + 1 : Nat) : Int) = (q : Int) + 1 := by omega
    rw [e2] at s x2
    refine ⟨s, ?_⟩
    unfold upI
    rw [x1, x2, if_neg (by decide), if_neg (by decide)]
    omega
theorem sin_mono {p : Int} (h0 : 0 ≤ p) : ∀ k : Nat, p + k ≤ 5400000 → sinP p ≤ sinP (p + k) ∧ upI p ≤ upI (p + k)
  | 0, _ => by
    have : p + ((0 : Nat) : Int) = p := by omega
    rw [this]
    exact ⟨Int.le_refl _, Int.le_refl _⟩
  | k + 1, h => by
    have i := sin_mono h0 k (by omega)
    have s := sin_step (p := p + k) (by omega) (by omega)
    have : p + ((k + 1 : Nat) : Int) = p + k + 1 := by omega
    rw [this]
    omega
theorem sin_le {p q : Int} (h0 : 0 ≤ p) (h : p ≤ q) (h1 : q ≤ 5400000) : sinP p ≤ sinP q ∧ upI p ≤ upI q := by
  obtain ⟨k, rfl⟩ : ∃ k : Nat, q = p + k := ⟨(q - p).toNat, by omega⟩
  exact sin_mono h0 k h1
/-- The ends in the quarters. -/
theorem ends1 {n : Int} (h0 : 0 ≤ n) (h1 : n ≤ 5400000) : loI n = sinP n ∧ hiE n = upI n := by
  have e : mI n = n := by unfold mI; omega
  have q : quartI n = n := by unfold quartI; rw [e, if_neg (by omega), if_neg (by omega)]
  unfold loI hiE southB
  rw [q, e, decide_eq_false (by omega)]
  exact ⟨rfl, rfl⟩
theorem ends2 {n : Int} (h0 : 5400000 ≤ n) (h1 : n ≤ 10800000) : loI n = sinP (10800000 - n) ∧ hiE n = upI (10800000 - n) := by
  by_cases k : n = 5400000
  · subst k
    exact ends1 (by decide) (by decide)
  have e : mI n = n := by unfold mI; omega
  have q : quartI n = 10800000 - n := by unfold quartI; rw [e, if_neg (by omega), if_pos (by omega)]
  unfold loI hiE southB
  rw [q, e, decide_eq_false (by omega)]
  exact ⟨rfl, rfl⟩
theorem ends3 {n : Int} (h0 : 10800000 ≤ n) (h1 : n ≤ 16200000) : loI n = -upI (n - 10800000) ∧ hiE n = -sinP (n - 10800000) := by
  by_cases k : n = 10800000
  · subst k
    have a := ends2 (n := 10800000) (by decide) (by decide)
    have s := sinP_spots.1.1
    have u := up_spots.1.1
    rw [show (10800000 : Int) - 10800000 = 0 from rfl] at *
    omega
  have e : mI n = n := by unfold mI; omega
  have q : quartI n = n - 10800000 := by unfold quartI; rw [e, if_pos (by omega), if_neg (by omega)]
  unfold loI hiE southB
  rw [q, e, decide_eq_true (by omega)]
  exact ⟨rfl, rfl⟩
/-- The cosine's ends. -/
def cL (a b : Int) : Int := encL (a + 5400000) (b + 5400000)
def cH (a b : Int) : Int := encH (a + 5400000) (b + 5400000)
theorem has_no {a b n : Int} (h0 : 0 ≤ n - a + 21600000) (h : n < a ∨ b < n) (hb : b - a < n - a + 21600000) (hs : n < a + 21600000) (ab : a ≤ b) : hasB a b n = false := by
  unfold hasB
  apply decide_eq_false
  omega
/-- The ends of an arc within the first quarter. -/
theorem box1 {x y : Int} (h0 : 0 ≤ x) (h : x ≤ y) (h1 : y ≤ 5400000) : cL x y = sinP (5400000 - y) ∧ cH x y = upI (5400000 - x) ∧ encL x y = sinP x ∧ encH x y = upI y := by
  obtain ⟨ax, bx⟩ := ends2 (n := x + 5400000) (by omega) (by omega)
  obtain ⟨ay, bY⟩ := ends2 (n := y + 5400000) (by omega) (by omega)
  obtain ⟨sx, tx⟩ := ends1 (n := x) (by omega) (by omega)
  obtain ⟨sy, ty⟩ := ends1 (n := y) (by omega) (by omega)
  have m1 := sin_le (p := 5400000 - y) (q := 5400000 - x) (by omega) (by omega) (by omega)
  have m2 := sin_le (p := x) (q := y) (by omega) (by omega) (by omega)
  rw [show 10800000 - (x + 5400000) = 5400000 - x by omega] at ax bx
  rw [show 10800000 - (y + 5400000) = 5400000 - y by omega] at ay bY
  have n1 : hasB (x + 5400000) (y + 5400000) 16200000 = false := has_no (by omega) (by omega) (by omega) (by omega) (by omega)
  have n3 : hasB x y 16200000 = false := has_no (by omega) (by omega) (by omega) (by omega) (by omega)
  refine ⟨?_, ?_, ?_, ?_⟩
  · unfold cL encL
    rw [n1, if_neg (by decide), ax, ay]; omega
  · unfold cH encH
    by_cases k : x = 0
    · subst k
      have u := up_spots.2.2.2
      rw [show (5400000 : Int) - 0 = 5400000 from rfl] at *
      split <;> omega
    · have n2 : hasB (x + 5400000) (y + 5400000) 5400000 = false := has_no (by omega) (by omega) (by omega) (by omega) (by omega)
      rw [n2, if_neg (by decide), bx, bY]; omega
  · unfold encL
    rw [n3, if_neg (by decide), sx, sy]; omega
  · unfold encH
    by_cases k : y = 5400000
    · subst k
      have u := up_spots.2.2.2
      split <;> omega
    · have n2 : hasB x y 5400000 = false := has_no (by omega) (by omega) (by omega) (by omega) (by omega)
      rw [n2, if_neg (by decide), tx, ty]; omega
/-- The ends of an arc within the second quarter. -/
theorem box2 {x y : Int} (h0 : 5400000 ≤ x) (h : x ≤ y) (h1 : y < 10800000) : cL x y = -upI (y - 5400000) ∧ cH x y = -sinP (x - 5400000) ∧ encL x y = sinP (10800000 - y) ∧ encH x y = upI (10800000 - x) := by
  obtain ⟨ax, bx⟩ := ends3 (n := x + 5400000) (by omega) (by omega)
  obtain ⟨ay, bY⟩ := ends3 (n := y + 5400000) (by omega) (by omega)
  obtain ⟨sx, tx⟩ := ends2 (n := x) (by omega) (by omega)
  obtain ⟨sy, ty⟩ := ends2 (n := y) (by omega) (by omega)
  have m1 := sin_le (p := x - 5400000) (q := y - 5400000) (by omega) (by omega) (by omega)
  have m2 := sin_le (p := 10800000 - y) (q := 10800000 - x) (by omega) (by omega) (by omega)
  rw [show x + 5400000 - 10800000 = x - 5400000 by omega] at ax bx
  rw [show y + 5400000 - 10800000 = y - 5400000 by omega] at ay bY
  have n1 : hasB (x + 5400000) (y + 5400000) 16200000 = false := has_no (by omega) (by omega) (by omega) (by omega) (by omega)
  have n2 : hasB (x + 5400000) (y + 5400000) 5400000 = false := has_no (by omega) (by omega) (by omega) (by omega) (by omega)
  have n3 : hasB x y 16200000 = false := has_no (by omega) (by omega) (by omega) (by omega) (by omega)
  refine ⟨?_, ?_, ?_, ?_⟩
  · unfold cL encL
    rw [n1, if_neg (by decide), ax, ay]; omega
  · unfold cH encH
    rw [n2, if_neg (by decide), bx, bY]; omega
  · unfold encL
    rw [n3, if_neg (by decide), sx, sy]; omega
  · unfold encH
    by_cases k : x = 5400000
    · subst k
      have u := up_spots.2.2.2
      rw [show (10800000 : Int) - 5400000 = 5400000 from rfl] at *
      split <;> omega
    · have n4 : hasB x y 5400000 = false := has_no (by omega) (by omega) (by omega) (by omega) (by omega)
      rw [n4, if_neg (by decide), tx, ty]; omega
end Go.Proofs.YtjdcicjhpegphaaGreat

/- The arcsine: what the functions answer. -/
namespace Go.Proofs.YtjdcicjhpegphaaGreat
open Go Go.Abs Go.RowKit Go.Sine
set_option linter.unusedVariables false
/-- One times the sine of an angle beside a number. -/
def belI (n v : Int) : Int := if hiE n ≤ v then (if v = loI n then 0 else -1) else 1
def sBel (bl : Int → Int → Int) : FSpec := fun | [.int .i64 n, .int .i64 v] => some (Q41 n, num (bl n v)) | _ => none
/-- The greatest angle whose sine is at most a number. -/
def asnG (v n : Int) : Bool := decide (hiE n ≤ v)
def asnI (v : Int) : Int := bsI (asnG v) (-5400000) 5400001
structure AsR (f : Int → Bool) (lo hi : Int) : Prop where
  l : -5400000 ≤ lo
  h : hi ≤ 5400001
  lt : lo < hi
  eq : bsI f lo hi = bsI f (-5400000) 5400001
def annAs (f : Int → Bool) : Ann where
  σ := Int × Int
  st := fun s v => ⟨lset (lset (keepA s 21 [0, 2]) 3 (.v (.int .i64 v.1))) 4 (.v (.int .i64 v.2)), s.hp⟩
  inv := fun _ v => AsR f v.1 v.2
  μ := fun _ v => (v.2 - v.1).toNat
def ΓAs1 (bl : Int → Int → Int) : List (FuncId × CSpec) := [(156, .v (sBel bl))]
def AAs1 (f : Int → Bool) : FuncId → List (Nat × LoopBy) := fun _ => [(0, .ann (annAs f))]
def sAsn1 (an : Int → Int) : FSpec := fun | [.int .i64 v] => some (True, num (an v)) | _ => none
def sAtPart : FSpec := fun | [.agg ⟨[.int .i64 a, .int .i64 b]⟩, .int .i64 l, .int .i64 h] => some (True, pair (wid (max a l) (min b h)) (.bool (decide (max a l ≤ min b h)))) | _ => none
def ΓAs2 (an : Int → Int) : List (FuncId × CSpec) := [(91, .v sFxValid), (92, .v sAtPart), (138, .v (sAsn1 an))]
end Go.Proofs.YtjdcicjhpegphaaGreat

/- The arcsine: what the functions ask. -/
namespace Go.Proofs.YtjdcicjhpegphaaGreat
open Go Go.Abs Go.RowKit Go.Sine
set_option linter.unusedVariables false
set_option linter.unusedSimpArgs false
theorem vc_trbelow (n v : Int) (K : Value → Prop) : callsX Tryz.prog ([(148, .v sEnds)]) (noAnn) 156 [num n, num v] K = (
 Q41 n ∧
 bcase (decide (v ≥ hiE n))
 (bcase (decide (v > loI n)) (K (Value.int IntKind.i64 (-1)))
 (bcase (decide (v ≤ loI n)) (bcase (decide (v < hiE n)) (K (Value.int IntKind.i64 1)) (bcase (v == loI n) (K (Value.int IntKind.i64 0)) (bcase (decide (v < loI n)) (K (Value.int IntKind.i64 1)) (K (Value.int IntKind.i64 (-1)))))) (bcase (v == loI n) (K (Value.int IntKind.i64 0)) (bcase (decide (v < loI n)) (K (Value.int IntKind.i64 1)) (K (Value.int IntKind.i64 (-1)))))))
 (bcase (decide (v ≤ loI n)) (bcase (decide (v < hiE n)) (K (Value.int IntKind.i64 1)) (bcase (v == loI n) (K (Value.int IntKind.i64 0)) (bcase (decide (v < loI n)) (K (Value.int IntKind.i64 1)) (K (Value.int IntKind.i64 (-1)))))) (bcase (v == loI n) (K (Value.int IntKind.i64 0)) (bcase (decide (v < loI n)) (K (Value.int IntKind.i64 1)) (K (Value.int IntKind.i64 (-1))))))) := by kernel_rfl
theorem vc_atasin1 (v : Int) (bl : Int → Int → Int) (f : Int → Bool) (K : Value → Prop) : callsX Tryz.prog (ΓAs1 bl) (AAs1 f) 138 [num v] K = (
 ∃ (s : Int × Int),
 (v = v ∧ Int.ofNat 0 = 0 ∧ -5400000 = s.fst ∧ 5400001 = s.snd ∧ True) ∧
 AsR f s.fst s.snd ∧
 ∀ (s : Int × Int),
 AsR f s.fst s.snd →
 bcase (decide (IntKind.i64.wrap (s.snd - s.fst) > 1))
 (Q41 ((IntKind.i64.wrap (s.fst + s.snd)).fdiv (2 ^ 1)) ∧
 bcase (decide (bl ((IntKind.i64.wrap (s.fst + s.snd)).fdiv (2 ^ min (Int.toNat 1) IntKind.i64.bits)) v ≤ 0)) (∃ (s_1 : Int × Int), (v = v ∧ Int.ofNat 0 = 0 ∧ (IntKind.i64.wrap (s.fst + s.snd)).fdiv (2 ^ 1) = s_1.fst ∧ s.snd = s_1.snd ∧ True) ∧ AsR f s_1.fst s_1.snd ∧ (s_1.snd - s_1.fst).toNat < (s.snd - s.fst).toNat)
 (∃ (s_1 : Int × Int), (v = v ∧ Int.ofNat 0 = 0 ∧ s.fst = s_1.fst ∧ (IntKind.i64.wrap (s.fst + s.snd)).fdiv (2 ^ 1) = s_1.snd ∧ True) ∧ AsR f s_1.fst s_1.snd ∧ (s_1.snd - s_1.fst).toNat < (s.snd - s.fst).toNat))
 (K (Value.int IntKind.i64 s.fst))) := by kernel_rfl
theorem vc_atpart (a b l h : Int) (K : Value → Prop) : callsX Tryz.prog ([]) (noAnn) 92 [wid a b, num l, num h] K = (
 K (Value.tuple #[Value.agg #[Value.int IntKind.i64 (if l > a then l else a), Value.int IntKind.i64 (if h < b then h else b)], Value.bool (decide ((if l > a then l else a) ≤ if h < b then h else b))])) := by kernel_rfl
theorem vc_atasin (a b : Int) (an : Int → Int) (K : Value → Prop) : callsX Tryz.prog (ΓAs2 an) (noAnn) 110 [wid a b] K = (
 True ∧
 bcase (!decide (FixV a b)) (K (Value.tuple #[Value.agg #[Value.int IntKind.i64 0, Value.int IntKind.i64 0], Value.int IntKind.i64 1]))
 (True ∧ bcase (!decide (max a (-1073741824) ≤ min b 1073741824)) (K (Value.tuple #[Value.agg #[Value.int IntKind.i64 0, Value.int IntKind.i64 0], Value.int IntKind.i64 2])) (True ∧ True ∧ K (Value.tuple #[Value.agg #[Value.int IntKind.i64 (an (max a (-1073741824))), Value.int IntKind.i64 (IntKind.i64.wrap (0 - an (IntKind.i64.wrap (0 - min b 1073741824))))], Value.int IntKind.i64 0])))) := by kernel_rfl
end Go.Proofs.YtjdcicjhpegphaaGreat

/- The arcsine: contracts. -/
namespace Go.Proofs.YtjdcicjhpegphaaGreat
open Go Go.Abs Go.RowKit Go.Sine
set_option linter.unusedVariables false
set_option linter.unusedSimpArgs false
theorem bel_g (n v : Int) : decide (belI n v ≤ 0) = asnG v n := by
  unfold belI asnG
  by_cases h : hiE n ≤ v
  · rw [if_pos h, decide_eq_true h]
    split <;> rfl
  · rw [if_neg h, decide_eq_false h]
    rfl
/-- What the search has found. -/
theorem bsI_found (f : Int → Bool) : ∀ (n : Nat) (lo hi : Int), (hi - lo).toNat ≤ n → lo < hi → (f (bsI f lo hi) = true ∨ bsI f lo hi = lo) ∧ (f (bsI f lo hi + 1) = false ∨ bsI f lo hi + 1 = hi)
  | 0, lo, hi, h, k => by omega
  | n + 1, lo, hi, h, k => by
    by_cases c : hi - lo > 1
    · rw [bsI_step f c]
      split
      · rename_i q
        have := bsI_found f n ((lo + hi) / 2) hi (by omega) (by omega)
        refine ⟨?_, this.2⟩
        rcases this.1 with e | e
        · exact .inl e
        · rw [e]; exact .inl q
      · rename_i q
        have := bsI_found f n lo ((lo + hi) / 2) (by omega) (by omega)
        refine ⟨this.1, ?_⟩
        rcases this.2 with e | e
        · exact .inl e
        · rw [e]; exact .inl (by simpa using q)
    · rw [bsI_end f c]
      exact ⟨.inr rfl, .inr (by omega)⟩
theorem asn_range (v : Int) : -5400000 ≤ asnI v ∧ asnI v ≤ 5400000 := by
  have := bsI_in (asnG v) 10800001 (-5400000) 5400001 (by decide) (by decide)
  unfold asnI
  omega
theorem asn_found (v : Int) : hiE (asnI v) ≤ v ∨ asnI v = -5400000 := by
  have := (bsI_found (asnG v) 10800001 (-5400000) 5400001 (by decide) (by decide)).1
  rcases this with e | e
  · exact .inl (of_decide_eq_true e)
  · exact .inr e
/-- The ends of the sine of an angle below zero. -/
theorem ends4 {n : Int} (h0 : 0 ≤ n) (h1 : n ≤ 5400000) : loI (-n) = -upI n ∧ hiE (-n) = -sinP n := by
  by_cases z : n = 0
  · subst z
    have a := sinP_spots.1.1
    have b := up_spots.1.1
    have c := ends1 (n := 0) (by decide) (by decide)
    rw [show (-0 : Int) = 0 from rfl, c.1, c.2, a, b]
    exact ⟨rfl, rfl⟩
  · have m : mI (-n) = 21600000 - n := by unfold mI; omega
    have q : quartI (-n) = n := by
      unfold quartI
      rw [m]
      split <;> split <;> omega
    unfold loI hiE
    have s : southB (-n) = true := by unfold southB; rw [m]; exact decide_eq_true (by omega)
    rw [s, q, if_pos rfl, if_pos rfl]
    exact ⟨rfl, rfl⟩
/-- The sine grows strictly, as far as its ends show. -/
theorem up_over {c : Int} (h0 : 0 ≤ c) (h1 : c < 5400000) : sinP c < upI (c + 1) := by
  have h := sin_step h0 h1
  have u : upI (c + 1) = (if exB (c + 1) then sinP (c + 1) else sinP (c + 1) + 1) := rfl
  cases e : exB (c + 1) with
  | false => rw [e, if_neg (by decide)] at u; omega
  | true =>
    obtain ⟨⟨s0, s1⟩, ⟨s2, s3, s4⟩, s5, s6⟩ := sinP_spots
    obtain ⟨⟨u0, u1⟩, ⟨u2, u3, u4⟩, u5, u6⟩ := up_spots
    unfold exB at e
    simp only [Bool.or_eq_true, beq_iff_eq] at e
    rcases e with e | e | e
    · omega
    · have : c = 1799999 := by omega
      subst this
      rw [show (1799999 : Int) + 1 = 1800000 from rfl]
      omega
    · have : c = 5399999 := by omega
      subst this
      rw [show (5399999 : Int) + 1 = 5400000 from rfl]
      omega
theorem lo_hi {c : Int} (h0 : -5400000 ≤ c) (h1 : c < 5400000) : loI c < hiE (c + 1) := by
  by_cases p : 0 ≤ c
  · have a := ends1 (n := c) p (by omega)
    have b := ends1 (n := c + 1) (by omega) (by omega)
    have := up_over p h1
    omega
  · have a := ends4 (n := -c) (by omega) (by omega)
    have b := ends4 (n := -c - 1) (by omega) (by omega)
    have d := up_over (c := -c - 1) (by omega) (by omega)
    rw [show -(-c) = c by omega] at a
    rw [show -(-c - 1) = c + 1 by omega] at b
    rw [show -c - 1 + 1 = -c by omega] at d
    omega
theorem hi_step {n : Int} (h0 : -5400000 ≤ n) (h1 : n < 5400000) : hiE n ≤ hiE (n + 1) := by
  by_cases p : 0 ≤ n
  · have a := ends1 (n := n) p (by omega)
    have b := ends1 (n := n + 1) (by omega) (by omega)
    have := sin_step p h1
    omega
  · have a := ends4 (n := -n) (by omega) (by omega)
    have b := ends4 (n := -n - 1) (by omega) (by omega)
    have d := sin_step (p := -n - 1) (by omega) (by omega)
    rw [show -(-n) = n by omega] at a
    rw [show -(-n - 1) = n + 1 by omega] at b
    rw [show -n - 1 + 1 = -n by omega] at d
    omega
theorem hi_mono {n : Int} (h0 : -5400000 ≤ n) : ∀ k : Nat, n + k ≤ 5400000 → hiE n ≤ hiE (n + k)
  | 0, _ => by rw [show n + ((0 : Nat) : Int) = n by omega]; exact Int.le_refl _
  | k + 1, h => by
    have a := hi_mono h0 k (by omega)
    have b := hi_step (n := n + k) (by omega) (by omega)
    rw [show n + ((k + 1 : Nat) : Int) = n + k + 1 by omega]
    omega
theorem lo_neg {n : Int} (h0 : -5400000 ≤ n) (h1 : n ≤ 5400000) : loI (-n) = -hiE n := by
  by_cases p : 0 ≤ n
  · have a := ends1 p h1
    have b := ends4 p h1
    omega
  · have a := ends4 (n := -n) (by omega) (by omega)
    have b := ends1 (n := -n) (by omega) (by omega)
    rw [show -(-n) = n by omega] at a
    omega
/-- Arcsines of the ends of an interval: in order. -/
theorem asn_order {a b : Int} (h : a ≤ b) : asnI a ≤ -asnI (-b) := by
  have r1 := asn_range a
  have r2 := asn_range (-b)
  rcases asn_found a with e | e
  · rcases asn_found (-b) with f | f
    · apply Int.not_lt.mp
      intro k
      have n1 := lo_neg r2.1 r2.2
      have s := lo_hi (c := -asnI (-b)) (by omega) (by omega)
      have m := hi_mono (n := -asnI (-b) + 1) (by omega) (asnI a - (-asnI (-b) + 1)).toNat (by omega)
      rw [show -asnI (-b) + 1 + ((asnI a - (-asnI (-b) + 1)).toNat : Int) = asnI a by omega] at m
      omega
    · omega
  · omega
variable {Φ : World → Prop} (hst : ∀ w w', Φ w → Below w.heap.size w w' → Φ w')
include hst
theorem c_trbelow {n : Int} (v : Int) (hn : Q41 n) : Ans Tryz.prog Φ 156 [num n, num v] (num (belI n v)) := by
  refine fn_by hst (Sound.cons (by kernel_rfl) (fun args p v h hp => by unfold sEnds at h; split at h <;> cases h; exact c_trbounds hst hp) Sound.nil) (vc_trbelow n v _) ?_
  have e := ends_eq n
  have e2 : hiE n = loI n ∨ hiE n = loI n + 1 := by rw [e]; split <;> omega
  have hb : ∀ {a b : Int}, a = b → Value.int IntKind.i64 a = num b := fun h => by rw [h]
  unfold belI
  simp only [bcase_iff, decide_eq_true_eq, decide_eq_false_iff_not, beq_iff_eq, beq_eq_false_iff_ne]
  refine ⟨hn, fun h1 => ⟨fun h2 => hb ?_, fun h2 => ⟨fun h3 => ⟨fun h4 => hb ?_, fun h4 => ⟨fun h5 => hb ?_, fun h5 => ⟨fun h6 => hb ?_, fun h6 => hb ?_⟩⟩⟩, fun h3 => ⟨fun h5 => hb ?_, fun h5 => ⟨fun h6 => hb ?_, fun h6 => hb ?_⟩⟩⟩⟩, fun h1 => ⟨fun h3 => ⟨fun h4 => hb ?_, fun h4 => ⟨fun h5 => hb ?_, fun h5 => ⟨fun h6 => hb ?_, fun h6 => hb ?_⟩⟩⟩, fun h3 => ⟨fun h5 => hb ?_, fun h5 => ⟨fun h6 => hb ?_, fun h6 => hb ?_⟩⟩⟩⟩
  all_goals (split <;> (try split) <;> omega)
theorem c_atasin1 (v : Int) : Ans Tryz.prog Φ 138 [num v] (num (asnI v)) := by
  refine fn_by hst (Γ := ΓAs1 belI) (Sound.cons (by kernel_rfl) (fun args p v h hp => by unfold sBel at h; split at h <;> cases h; exact c_trbelow hst _ hp) Sound.nil) (vc_atasin1 v belI (asnG v) _) ?_
  refine ⟨(-5400000, 5400001), ⟨rfl, rfl, rfl, rfl, trivial⟩, ⟨Int.le_refl _, Int.le_refl _, by decide, rfl⟩, ?_⟩
  rintro ⟨lo, hi⟩ ⟨b1, b2, b3, b4⟩
  dsimp only at *
  have w1 : IntKind.i64.wrap (hi - lo) = hi - lo := wrap_in (by omega)
  have w2 : IntKind.i64.wrap (lo + hi) = lo + hi := wrap_in (by omega)
  have w3 : (lo + hi).fdiv (2 ^ 1) = (lo + hi) / 2 := by rw [show (2 : Int) ^ 1 = 2 from rfl, Int.fdiv_eq_ediv_of_nonneg _ (by decide)]
  have w4 : (lo + hi).fdiv (2 ^ min (Int.toNat 1) IntKind.i64.bits) = (lo + hi) / 2 := w3
  rw [w1, w2, w3, w4, bel_g]
  refine bcase_iff.mpr ⟨fun q => ⟨by unfold Q41; omega, bcase_iff.mpr ⟨fun r => ?_, fun r => ?_⟩⟩, fun q => ?_⟩
  · have q : hi - lo > 1 := of_decide_eq_true q
    rw [bsI_step _ q, if_pos r] at b4
    exact ⟨((lo + hi) / 2, hi), ⟨rfl, rfl, rfl, rfl, trivial⟩, ⟨by show -5400000 ≤ (lo + hi) / 2; omega, b2, by show (lo + hi) / 2 < hi; omega, b4⟩, by show (hi - (lo + hi) / 2).toNat < (hi - lo).toNat; omega⟩
  · have q : hi - lo > 1 := of_decide_eq_true q
    rw [bsI_step _ q, if_neg (by rw [r]; decide)] at b4
    exact ⟨(lo, (lo + hi) / 2), ⟨rfl, rfl, rfl, rfl, trivial⟩, ⟨b1, by show (lo + hi) / 2 ≤ 5400001; omega, by show lo < (lo + hi) / 2; omega, b4⟩, by show ((lo + hi) / 2 - lo).toNat < (hi - lo).toNat; omega⟩
  · have q : ¬ hi - lo > 1 := of_decide_eq_false q
    rw [bsI_end _ q] at b4
    rw [b4]
    rfl
theorem c_atpart (a b l h : Int) : Ans Tryz.prog Φ 92 [wid a b, num l, num h] (pair (wid (max a l) (min b h)) (.bool (decide (max a l ≤ min b h)))) := by
  refine fn_by hst Sound.nil (vc_atpart a b l h _) ?_
  have e1 : (if l > a then l else a) = max a l := by rw [Int.max_def]; split <;> split <;> omega
  have e2 : (if h < b then h else b) = min b h := by rw [Int.min_def]; split <;> split <;> omega
  rw [e1, e2]
theorem s_As2 : Sound Tryz.prog Φ (ΓAs2 asnI) :=
  Sound.cons (by kernel_rfl) (fun args p v h hp => by unfold sFxValid at h; split at h <;> cases h; exact c_fxvalid hst _ _)
  (Sound.cons (by kernel_rfl) (fun args p v h hp => by unfold sAtPart at h; split at h <;> cases h; exact c_atpart hst _ _ _ _)
  (Sound.cons (by kernel_rfl) (fun args p v h hp => by unfold sAsn1 at h; split at h <;> cases h; exact c_atasin1 hst _) Sound.nil))
theorem c_atasin {a b : Int} (h : FixV a b) (h1 : a ≤ 1073741824) (h2 : -1073741824 ≤ b) : Ans Tryz.prog Φ 110 [wid a b] (pair (wid (asnI (max a (-1073741824))) (-asnI (-min b 1073741824))) (num 0)) := by
  refine fn_by hst (s_As2 hst) (vc_atasin a b asnI _) ?_
  have hh := h
  unfold FixV at hh
  have r := asn_range (-min b 1073741824)
  have m : max a (-1073741824) ≤ min b 1073741824 := by omega
  rw [decide_eq_true h, decide_eq_true m, wrap_in (n := 0 - min b 1073741824) (by omega), Int.zero_sub (min b 1073741824), wrap_in (n := 0 - asnI (-min b 1073741824)) (by omega), Int.zero_sub]
  exact ⟨trivial, trivial, trivial, trivial, rfl⟩
end Go.Proofs.YtjdcicjhpegphaaGreat
